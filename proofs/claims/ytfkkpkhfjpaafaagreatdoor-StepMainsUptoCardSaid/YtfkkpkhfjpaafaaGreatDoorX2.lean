/- Part 2 of a proof: the sources, with their names and remarks, lie in wip/. -/
import Derived.Test.YtfkkpkhfjpaafaaGreatDoorX1
import Derived.LoopN
import Derived.Scope
namespace Go.Proofs.YtfkkpkhfjpaafaaGreatDoor.PI
open Go
set_option linter.unusedVariables false
set_option linter.unusedSimpArgs false
section
variable {U:Uni} {V:Env U} {P:Program} {X:Link V P} {K:cj U} {c:Ctx} {tm:Array Value} {a:Act} {w:World} {σ:St U} {g:Gh U} {D:Nat→Option Nat}
variable {next:Act→World→Prop} {Q:Exit→Act→World→Prop} {r:MR U} {τ:St U} {fp gp:List Loc} {N:aN}
variable {dst:Option Tmp} {ty:TypeId} {pos:String} {after:Array Edge} {gd:Option (Nat×Bool)}
def PV.noFresh:PV U→Prop
 | .tuple ps=>ps.all PV.notFresh=true
 |p=>p.notFresh=true
theorem akN {d:Nat}: ∀ (ps:List (PV U)) {k:List (PV U)→M U} {fp:List Loc},(ww d ps k).Rel K σ fp r τ gp→
  (∃fp',(k ps).Rel K σ fp' r τ gp∧ps.all PV.notFresh=true)∨
  ∃e l nv fp' pre post,(k (pre++ .own d nv::post)).Rel K ((σ.setO d ⟨nv,e,l⟩).setU d .wr) fp' r τ gp∧(∀ob,σ.o d=some ob→ob.ver<nv)∧ps=pre++ .fresh e l::post∧pre.all PV.notFresh=true∧post.all PV.notFresh=true:=by
 intro ps
 induction ps with
 |nil=>intro k fp hr;exact .inl ⟨fp,hr,rfl⟩
 |cons p ps ih=>
  intro k fp hr
  have other:p.notFresh=true→(ww d ps fun r=>k (p::r)).Rel K σ fp r τ gp→((∃fp',(k (p::ps)).Rel K σ fp' r τ gp∧(p::ps).all PV.notFresh=true)∨
     ∃e l nv fp' pre post,(k (pre++ .own d nv::post)).Rel K ((σ.setO d ⟨nv,e,l⟩).setU d .wr) fp' r τ gp∧(∀ob,σ.o d=some ob→ob.ver<nv)∧(p::ps)=pre++ .fresh e l::post∧pre.all PV.notFresh=true∧post.all PV.notFresh=true):=fun hp hr'=>by
   grind
  cases p with
  |fresh e l=>
   simp only [ww] at hr
   cases hb:ps.all PV.notFresh with
   |false=>rw [hb] at hr;exact hr.elim
   |true=>
    rw [hb] at hr
    simp only [cond_true,M.Rel] at hr
    split at hr
    ·rename_i ob hob
     exact .inr ⟨e,l,ob.ver+1,_,[],ps,hr,fun ob' h=>by grind,rfl,rfl,hb⟩
    ·rename_i hob
     exact .inr ⟨e,l,0,_,[],ps,hr,(fun ob' h=>by grind),rfl,rfl,hb⟩
  |_=>exact other rfl hr
theorem akO {d:Nat} {p:PV U} {k:PV U→M U} {fp:List Loc} (hr:(BY d p k).Rel K σ fp r τ gp):
  (∃fp',(k p).Rel K σ fp' r τ gp∧p.noFresh)∨
  ∃e l nv fp',(∀ob,σ.o d=some ob→ob.ver<nv)∧((p= .fresh e l∧(k (.own d nv)).Rel K ((σ.setO d ⟨nv,e,l⟩).setU d .wr) fp' r τ gp)∨
   ∃pre post,p= .tuple (pre++ .fresh e l::post)∧(k (.tuple (pre++ .own d nv::post))).Rel K ((σ.setO d ⟨nv,e,l⟩).setU d .wr) fp' r τ gp∧pre.all PV.notFresh=true∧post.all PV.notFresh=true):=by
 cases p with
 |fresh e l=>
  grind [BY,M.Rel]
 |tuple ps=>
  simp only [BY] at hr
  rcases akN ps hr with ⟨fp',h1,h2⟩|⟨e,l,nv,fp',pre,post,h1,h2,h3,h4,h5⟩
  ·exact .inl ⟨fp',h1,h2⟩
  grind
 |_=>exact .inl ⟨_,hr,rfl⟩
theorem RepG.rep {v:Value} {Do:Option Nat} {p:PV U} (h:RepG X w N g v Do p) (hp:p.notFresh=true):Rep X w N g v p:=by
 cases p<;>first|exact h|cases hp
theorem Bk {keep:Bool} {ρ:Nat→Nat} (p:PV U):(p.ren keep ρ).notFresh=p.notFresh:=by
 cases p with
 |sl e l o=>cases o<;>cases keep<;>rfl
 |_=>rfl
theorem Qr {keep:Bool} {ρ:Nat→Nat} {p:PV U} {e:U.E} {l:List (U.El e)} (h:p.ren keep ρ= .fresh e l):p= .fresh e l:=by
 cases p with
 |fresh e' l'=>exact h
 |sl e l o=>cases o<;>cases keep<;>cases h
 |_=>cases h
theorem aio {keep:Bool} {ρ:Nat→Nat} {p:PV U} {l:List (PV U)} (h:p.ren keep ρ= .tuple l): ∃ps,p= .tuple ps∧l=ps.map (PV.ren keep ρ):=by
 cases p with
 |tuple ps=>grind [PV.ren,iL]
 |sl e l o=>cases o<;>cases keep<;>cases h
 |_=>cases h
theorem RepG.ren {w':World} {N':aN} {g':Gh U} {v:Value} {Do:Option Nat} {p:PV U} (h:RepG X w N g v Do p) (keep:Bool) (ρ:Nat→Nat) (hno:p.noObj=true) (hμ: ∀i,i∈p.ids→ ∀b,g.μ i=some b→g'.μ (ρ i)=some b):RepG X w N g' v Do (p.ren keep ρ):=by
 by_cases hp:p.notFresh=true
 ·have:=(h.rep hp).ren (g':=g') (N':=N) (w':=w) keep ρ (fun _ _ _ _=>rfl) (fun _ _ _ h=>h) (.inl hno) hμ
  have hq:(p.ren keep ρ).notFresh=true:=by rw [Bk];exact hp
  generalize p.ren keep ρ=q at this hq
  cases q<;>first|exact this|cases hq
 ·cases p with
  |fresh e l=>exact ObOK.turn h (fun _ _=>rfl) (fun _ _ _ _=>rfl) (fun _ _ _ h=>h)
  |_=>exact absurd rfl hp
theorem QP {f:FuncId} {fn:Func} (hf:P.funcs[f]? =some fn) (hn:(fn.name== "runtime.NumGoroutine")=false) (hb:fn.body.isNone=false) (args:Array Value) (w:World):(callFunc f args).run P w= .ok (.enter f args) w:=by
 grind [callFunc,Sem.run_bind,run_program,Result.andThen_ok,Sem.run_pure]
theorem aiG {x:Operand} {cl:Call} (hc:cl.callee= .value x) {f:FuncId} {a0s bs:Array Value} (he:a.eval x= .func (.func f) a0s bs) (w:World):
  (execOp a.eval ⟨dst,.call cl,ty,pos,after,gd⟩).run P w=(callFunc f (a0s++cl.args.map a.eval++bs)).run P w:=by
 grind [execOp,resolve,Deferred.ofValue,invoke]
theorem pT {xs:Array Value} {l:List Value} (j:Nat) (h:xs.toList=l):xs.getD j undef=l.getD j undef:=by
 grind [Array.getD_eq_getD_getElem?]
theorem Qw {xs ys:List Value} {ps qs:List (PV U)} (hl:xs.length=ps.length) (h1: ∀ (j:Nat) p,ps[j]? =some p→Rep X w N g (xs.getD j undef) p) (h2: ∀ (j:Nat) p,qs[j]? =some p→Rep X w N g (ys.getD j undef) p):
  ∀ (j:Nat) p,(ps++qs)[j]? =some p→Rep X w N g ((xs++ys).getD j undef) p:=by
 grind
end
end Go.Proofs.YtfkkpkhfjpaafaaGreatDoor.PI
namespace Go.Proofs.YtfkkpkhfjpaafaaGreatDoor.PI
open Go
set_option linter.unusedVariables false
set_option linter.unusedSimpArgs false
set_option maxHeartbeats 1000000
section
variable {U:Uni} {V:Env U} {P:Program} {X:Link V P} {c:Ctx} {a:Act} {w:World} {σ:St U} {g:Gh U} {D:Nat→Option Nat}
variable {next:Act→World→Prop} {Q:Exit→Act→World→Prop} {r:MR U} {τ:St U} {fp gp:List Loc} {N:aN}
theorem Ac {all:List (PV U)} {bs:List (Nat×Box U)} (h:kj all bs=true):PV.noObjL all=true∧(∀x∈bs,x.2.noObj=true)∧(bs.map (·.1)).Nodup∧(∀i∈PV.idsL all,i∈bs.map (·.1))∧ ∀x∈bs,∀i∈x.2.ids,i∈bs.map (·.1):=by
 unfold kj at h
 simp only [Bool.and_eq_true] at h
 obtain ⟨h1,h2,h3,h4⟩:=h
 have hin: ∀i,i∈PV.idsL all++bs.flatMap (·.2.ids)→i∈bs.map (·.1):=by
  intro i hi
  obtain ⟨j,hj,hij⟩:=List.any_eq_true.1 (List.all_eq_true.1 h4 i hi)
  have:i=j:=by simpa using hij
  rw [this];exact hj
 exact ⟨h1,fun x hx=>List.all_eq_true.1 h2 x hx,D8 h3,fun i hi=>hin i (List.mem_append.2 (.inl hi)),fun x hx i hi=>hin i (List.mem_append.2 (.inr (List.mem_flatMap.2 ⟨x,hx,hi⟩)))⟩
theorem NN {g:Gh U} {bs:List (Nat×Box U)} (hb: ∀x∈bs,mG X w N g x): ∃ν:Nat→Nat,∀ (k:Nat) id,(bs.map (·.1))[k]? =some id→g.μ id=some (ν k):=by
 refine ⟨fun k=>(g.μ ((bs.map (·.1)).getD k 0)).getD 0,fun k id hid=> ?_⟩
 have hm:=List.mem_of_getElem? hid
 obtain ⟨x,hx,rfl⟩:=List.mem_map.1 hm
 obtain ⟨kb,hk,_⟩:=hb x hx
 simp only
 rw [List.getD_eq_getElem?_getD,hid,Option.getD_some,hk,Option.getD_some]
theorem EE {tm:Array Value} (h:Sim X c tm w σ g D) (keep:Bool) {qs:List (PV U)} {bs:List (Nat×Box U)} {vs:Array Value} {δ:Nat→Option Nat} {G:List Nat} (hsz:vs.size=qs.length) (hb: ∀x∈bs,mG X w (c.N g D) g x) (hh:kj qs bs=true)
  (hδ: ∀j b,δ j=some b→j<qs.length∧ ∃i∈G,D i=some b) (hδi: ∀i j b,δ i=some b→δ j=some b→i=j) (hq: ∀ (j:Nat) q,qs[j]? =some q→RepG X w (c.N g D) g (vs.getD j undef) (δ j) q)
  {ν:Nat→Nat} (hν: ∀ (k:Nat) id,(bs.map (·.1))[k]? =some id→g.μ id=some (ν k)):
  NB (ee (c.N g D) bs.length ν δ) bs.length ν δ=c.N g D∧
   Given X w vs (ee (c.N g D) bs.length ν δ) ν δ (PV.renL keep (bt (bs.map (·.1))) qs) (bs.map fun b=>b.2.ren keep (bt (bs.map (·.1)))):=by
 obtain ⟨h1,h2,h3,h4,h5⟩:=Ac hh
 have hget: ∀k,k<bs.length→ ∃id,(bs.map (·.1))[k]? =some id∧g.μ id=some (ν k):=fun k hk=>⟨_,List.getElem?_eq_getElem (by simpa using hk),hν k _ (List.getElem?_eq_getElem (by simpa using hk))⟩
 have hNB:NB (ee (c.N g D) bs.length ν δ) bs.length ν δ=c.N g D:=Jw (fun k o hk=>by
  obtain ⟨id,_,hid⟩:=hget k hk
  exact .inr (.inl ⟨id,hid⟩)) fun j b o hj=>by
  obtain ⟨_,i,_,hi⟩:=hδ j b hj
  exact .inr (.inr ⟨i,hi⟩)
 have hμ: ∀i,i∈bs.map (·.1)→ ∀b,g.μ i=some b→(gB U bs.length ν).μ (bt (bs.map (·.1)) i)=some b:=by
  intro i hi b hb
  obtain ⟨e1,e2⟩:=AG hi
  have:=hν _ _ e1
  simp only [gB]
  rw [if_pos (by simpa using e2),←this,hb]
 refine ⟨hNB,⟨fun i j hi hj e=> ?_,fun i hi=> ?_,fun j b hj=> ?_,hδi,fun j b hj i hi e=> ?_,fun b o hn=>⟨Jg h hn.1,by simpa using hn.2.1,hn.2.2⟩⟩,by simp [iL,hsz],fun j b hj=>by simpa [iL] using (hδ j b hj).1,fun b o hb'=>⟨(h.glob hb').1,fun i hi e=> ?_,fun j hj=> ?_⟩,fun j p hp=> ?_,fun k b hb'=> ?_⟩
 ·simp only [List.length_map] at hi hj
  obtain ⟨id,q1,q2⟩:=hget i hi
  obtain ⟨id',q3,q4⟩:=hget j hj
  rw [e] at q2
  have:=h.inj _ _ _ q2 q4
  subst this
  exact (List.getElem?_inj (by simpa using hi) h3).1 (q1.trans q3.symm)
 ·simp only [List.length_map] at hi
  obtain ⟨id,q1,q2⟩:=hget i hi
  exact (h.new id _ q2).1
 ·obtain ⟨_,i,_,hi⟩:=hδ j b hj
  exact (h.dnew i b hi).1
 ·simp only [List.length_map] at hi
  obtain ⟨id,q1,q2⟩:=hget i hi
  obtain ⟨_,i',_,hi'⟩:=hδ j b hj
  rw [e] at q2
  exact h.dbox i' id b hi' q2
 ·simp only [List.length_map] at hi
  obtain ⟨id,_,q2⟩:=hget i hi
  exact (h.glob hb').2.1 id (e▸q2)
 ·obtain ⟨_,i,_,hi⟩:=hδ j b hj
  exact (h.glob hb').2.2 i hi
 ·simp only [List.length_map,hNB]
  rw [iL,List.getElem?_map,Option.map_eq_some_iff] at hp
  obtain ⟨q,hq',rfl⟩:=hp
  exact (hq j q hq').ren (w':=w) (N':=c.N g D) keep _ (jt h1 hq') fun i hi b hb=>hμ i (h4 i (fj hq' i hi)) b hb
 ·simp only [List.length_map,hNB]
  rw [List.getElem?_map,Option.map_eq_some_iff] at hb'
  obtain ⟨x,hx,rfl⟩:=hb'
  have hxm:=List.mem_of_getElem? hx
  obtain ⟨kb,hk,hbx⟩:=hb x hxm
  have hid:(bs.map (·.1))[k]? =some x.1:=by simp [hx]
  have:=hν k _ hid
  rw [hk] at this
  injection this with this
  subst this
  exact hbx.ren keep _ rfl (fun _ _ _ _=>rfl) (fun _ _ _ h=>h) (.inl (h2 x hxm)) fun i hi b hb=>hμ i (h5 x hxm i hi) b hb
variable {dst:Option Tmp} {ty:TypeId} {pos:String} {after:Array Edge} {gd:Option (Nat×Bool)}
theorem agQ {w:World} {v:Value} {δ:Nat→Option Nat} {p:PV U} {N:aN} {g:Gh U} (h:RepR X w N g v δ p) (hp:p.noFresh):Rep X w N g v p:=by
 cases p with
 |tuple ps=>
  obtain ⟨vs,rfl,hl,hh⟩:=h
  exact .tuple vs ps hl fun j q hq=>(hh j q hq).rep (List.all_eq_true.1 hp q (List.mem_of_getElem? hq))
 |fresh e l=>cases hp
 |_=>exact h
theorem ain {keep:Bool} {ρ:Nat→Nat} {p:PV U} (h:(p.ren keep ρ).noFresh):p.noFresh:=by
 cases p with
 |tuple ps=>
  simp only [PV.ren,iL,PV.noFresh,List.all_map] at h ⊢
  rw [←h]
  congr 1
  funext q
  exact (Bk q).symm
 |sl e l o=>rfl
 |fresh e l=>exact h
 |_=>rfl
theorem Qt {keep:Bool} {ρ:Nat→Nat}: ∀ {cs:List (PV U)},cs.all PV.scalar=true→PV.renL keep ρ cs=cs
 |[],_=>rfl
 |v::r,h=>by
  simp only [List.all_cons,Bool.and_eq_true] at h
  rw [PV.renL,Qt h.2]
  congr 1
  cases v with
  |sl e l o=>cases o<;>first|rfl|cases h.1
  |_=>first|rfl|cases h.1
theorem Qs {keep:Bool} {ρ:Nat→Nat} {b:Box U} (h:b.plain=true):b.ren keep ρ=b:=by
 cases b with
 |map e l=>cases h
 |cells cs=>rw [Box.ren,Qt h]
theorem Ey: ∀ {cs:List (PV U)} (k:List (PV U)→M U),cs.all PV.scalar=true→io cs k=k cs
 |[],_,_=>rfl
 |v::r,k,h=>by
  simp only [List.all_cons,Bool.and_eq_true] at h
  rw [io]
  cases v with
  |sl e l o=>cases o<;>first|(cases h.1;done)|(simp only [frz];exact Ey _ h.2)
  |_=>first|(cases h.1;done)|(simp only [frz];exact Ey _ h.2)
theorem KK: ∀ {bs:List (Nat×Box U)} (k:List (Nat×Box U)→M U),(bs.all fun x=>x.2.plain)=true→il bs k=k bs
 |[],_,_=>rfl
 |(id,.cells cs)::r,k,h=>by
  simp only [List.all_cons,Bool.and_eq_true] at h
  rw [il,Ey _ h.1,KK _ h.2]
 |(id,.map e l)::r,k,h=>by
  simp only [List.all_cons,Bool.and_eq_true] at h
  cases h.1
theorem ac6 (bs:List (Nat×Box U)) {σ:St U} {D:Nat→Option Nat} {k:List (Nat×Box U)→M U} {fp:List Loc} {tm:Array Value} {K:cj U} (h:Sim X c tm w σ g D) (hb: ∀x∈bs,mG X w (c.N g D) g x) (hr:(il bs k).Rel K σ fp r τ gp):
  ∃qs σ' D' fp',(k qs).Rel K σ' fp' r τ gp∧Frozen X c tm w g σ D σ' D'∧qs.map (·.1)=bs.map (·.1)∧(∀x∈qs,mG X w (c.N g D') g x)∧((bs.all fun x=>x.2.plain)=true→qs=bs∧σ'=σ):=by
 by_cases hp:(bs.all fun x=>x.2.plain)=true
 ·rw [KK _ hp] at hr
  exact ⟨bs,σ,D,fp,hr,.refl h,rfl,hb,fun _=>⟨rfl,rfl⟩⟩
 ·obtain ⟨qs,σ',D',fp',h1,h2,h3,h4⟩:=Ew bs h hb hr
  exact ⟨qs,σ',D',fp',h1,h2,h3,h4,fun h=>absurd h hp⟩
theorem Jv {CP:FuncId→Array Value→World→(Ending→World→Prop)→Prop} (hCP: ∀ {f vs w} {R R':Ending→World→Prop},CP f vs w R→(∀e w,R e w→R' e w)→CP f vs w R') (h:Sim X c a.tmps w σ g D) {give:List Bool} {p:PV U} {ps:List (PV U)} {fv:Value} {xs:Array Value} (hp:Rep X w (c.N g D) g fv p) (hxl:ps.length=xs.size)
  (hx: ∀ (j:Nat) q,ps[j]? =some q→Rep X w (c.N g D) g (xs.getD j undef) q) {o:Oper} (ho:o.dst=dst) (hd:bq c.nt o=true) (hr:(iV give dst p ps).Rel (jS X CP) σ fp r τ gp) (ht:Then X c a r τ next Q):
  ∃f a0s bs,fv= .func (.func f) a0s bs∧(∃fn,P.funcs[f]? =some fn∧(fn.name== "runtime.NumGoroutine")=false∧fn.body.isNone=false)∧
   CP f (a0s++xs++bs) w fun
    | .returned v,w''=>next (a.put dst v) w''
    | .panicked chain,w''=>Q (.panic chain) a w''
    | .outgrown,_=>LetsOut Q:=by
 unfold iV at hr
 split at hr
 case h_2=>exact hr.elim
 rename_i gid first caps
 cases hp with
 |func _ _ _ a0s bs ha hb hf1 hf2=>
 refine ⟨gid,a0s,bs,rfl, ?_⟩
 have hall: ∀ (j:Nat) q,(first++ps++caps)[j]? =some q→Rep X w (c.N g D) g ((a0s++xs++bs).getD j undef) q:=by
  have h1:=Qw (X:=X) (w:=w) (N:=c.N g D) (g:=g) (xs:=a0s.toList) (ys:=xs.toList) (ps:=first) (qs:=ps) (by simpa using ha) (fun j p hp=>by rw [←pT j rfl];exact hf1 j p hp) (fun j p hp=>by rw [←pT j rfl];exact hx j p hp)
  have h2:=Qw (X:=X) (w:=w) (N:=c.N g D) (g:=g) (xs:=a0s.toList++xs.toList) (ys:=bs.toList) (ps:=first++ps) (qs:=caps) (by simp [ha,hxl]) h1 (fun j p hp=>by rw [←pT j rfl];exact hf2 j p hp)
  intro j q hq
  rw [pT (l:=a0s.toList++xs.toList++bs.toList) j (by simp)]
  exact h2 j q hq
 have hsz:(a0s++xs++bs).size=(first++ps++caps).length:=by simp [ha,hb,hxl]
 generalize a0s++xs++bs=vs at hall hsz
 generalize first++ps++caps=all at hr hall hsz
 obtain ⟨q1,σ1,D1,fp1,hr1,hF1,hl1,hq1⟩:=KL give all h (fun j=>vs.getD j undef) hall hr
 obtain ⟨bs1,fp2,hr2,hb1⟩:=ac9 100 _ [] (by simp) hr1
 obtain ⟨bs2,σ2,D2,fp3,hr3,hF2,hkeys,hb2,hplain⟩:=ac6 bs1 hF1.sim (fun x hx=>hF1.sim.boxes x.1 x.2 (hb1 x hx)) hr2
 have h2:=hF2.sim
 obtain ⟨qs,σ3,fp4,G,δ,hr4,hl4,hSp,_,hδ,hδi,hqs⟩:=KR h2 give q1 (fun j=>vs.getD j undef) (.refl σ2) (fun j p hp=>hF2.rep (hq1 j p hp)) hr3
 rw [List.append_nil] at hSp
 cases hh:kj qs bs2 with
 |false=>rw [hh] at hr4;exact hr4.elim
 |true=>
 rw [hh] at hr4
 obtain ⟨out,⟨hfn,hOK⟩,hr5⟩:=hr4
 refine ⟨hfn, ?_⟩
 obtain ⟨ν,hν⟩:=NN hb2
 have hgiven:=(EE h2 false (vs:=vs) (by rw [hsz,←hl1,←hl4]) hb2 hh (fun j b hj=>by rw [hl4];exact hδ j b hj) hδi hqs hν).2
 have hnd:=(Ac hh).2.2.1
 have hcalls:=hOK w vs _ ν δ hgiven
 have hnl:bs2.length=(bs2.map (·.1)).length:=by simp
 have state: ∀ {w':World} {cs:List (Box U)} {σ':St U} {fo:Option (Ob U)} {fval:Value} {fD:Option Nat} {ν':Nat→Nat} {δ':Nat→Option Nat} {new:List Nat} {d:Nat},(bs2.map (·.1)++new).Nodup→(bs2.map (·.1)++new).length=cs.length→(∀id∈new,σ2.b id=none)→(∀id∈new,id<1000000)→
   (∀i,(fo=none∨i≠d)→σ'.o i=σ3.o i∧σ'.u i=σ3.u i)→
   (∀ob,fo=some ob→σ'.o d=some ob∧σ'.u d= .wr∧(∀ob0,σ3.o d=some ob0→ob0.ver<ob.ver)∧ObOK X w' (NB (ee (c.N g D2) bs2.length ν δ) cs.length ν' δ') (gB U cs.length ν') ob.e ob.l fval .wr fD)→
   (∀b,fD=some b→ ∃j,δ' j=some b)→(fo=none→fD=none)→(∀n,σ'.r n=σ3.r n)→(∀id,id∉bs2.map (·.1)++new→σ'.b id=σ3.b id)→
   (∀ (k:Nat) id b,(bs2.map (·.1)++new)[k]? =some id→cs[k]? =some b→σ'.b id=some (b.ren true fun i=>(bs2.map (·.1)++new).getD i 0))→
   Back X w w' (ee (c.N g D2) bs2.length ν δ) ν δ bs2.length qs.length ν' δ' cs→
   ∃g' D',Sim X c a.tmps w' σ' g' D'∧(∀v p,Rep X w' (NB (ee (c.N g D2) bs2.length ν δ) cs.length ν' δ') (gB U cs.length ν') v p→Rep X w' (c.N g' D') g' v (p.ren true fun i=>(bs2.map (·.1)++new).getD i 0))∧
    ∀ob,fo=some ob→g'.κ d=some (ob.ver,ob.e,fval):=by
  intro w' cs σ' fo fval fD ν' δ' new d k1 k2 k3 klow k4 k5 k6 k7 k8 k9 k10 k11
  rw [hnl] at k5 k11 ⊢
  refine h2.called (G:=G) k1 k2 hν k3 klow (fun j b hj=>(hδ j b hj).2) (fun i hi=> ?_) (fun i hi hc=> ?_) (fun ob hob=> ?_) k6 k7 (fun n=>(k8 n).trans (hSp.r n)) (fun id hid=>(k9 id hid).trans (hSp.b id)) k10 k11
  ·obtain ⟨ob,e1,e2,e3⟩:=hSp.spent i hi
   exact ⟨ob,e1,fun hc=>by obtain ⟨f1,f2⟩:=k4 i hc;exact ⟨f1.trans e2,f2.trans e3⟩⟩
  ·obtain ⟨e1,e2⟩:=hSp.other i hi
   obtain ⟨f1,f2⟩:=k4 i hc
   exact ⟨f1.trans e1,f2.trans e2⟩
  ·obtain ⟨e1,e2,e3,e4⟩:=k5 ob hob
   refine ⟨e1,e2,fun ob0 h0=> ?_,e4⟩
   by_cases hdG:d∈G
   ·obtain ⟨ob1,f1,f2,_⟩:=hSp.spent d hdG
    have:=e3 _ f2
    rw [f1] at h0
    injection h0 with h0
    subst h0
    simp at this;omega
   ·exact e3 ob0 ((hSp.other d hdG).1.trans h0)
 have hlren:(PV.renL false (bt (bs2.map (·.1))) qs).length=qs.length:=by simp [iL]
 refine hCP hcalls fun e w' hret=> ?_
 rw [List.length_map,hlren] at hret
 cases e with
 |outgrown=>exact hret.elim
 |returned rv=>
  cases out with
  |panic v cs=>exact hret.elim
  |ret v cs=>
   simp only at hr5
   cases hble:Nat.ble (bs2.map (·.1)).length cs.length with
   |false=>
    rw [hble] at hr5
    simp only [cond_false] at hr5
    have hful:Out.full (bs2.map fun b=>b.2.ren false (bt (bs2.map (·.1)))) (.ret v cs)= .ret v (bs2.map fun b=>b.2.ren false (bt (bs2.map (·.1)))):=by
     unfold Out.full
     dsimp only
     rw [show Nat.ble (bs2.map fun b=>b.2.ren false (bt (bs2.map (·.1)))).length cs.length=false by rw [←hble];simp]
     rfl
    rw [hful] at hret
    obtain ⟨ν',δ',hback,hrep⟩:=hret
    split at hr5
    case h_2=>exact hr5.elim
    rename_i bv
    cases hpl:bs1.all fun x=>x.2.plain with
    |false=>rw [hpl] at hr5;exact hr5.elim
    |true=>
    rw [hpl] at hr5
    simp only [cond_true] at hr5
    obtain ⟨hbb,hss⟩:=hplain hpl
    have hpl': ∀x∈bs2,x.2.plain=true:=fun x hx=>List.all_eq_true.1 hpl x (hbb▸hx)
    obtain ⟨g',D',hs,htr,_⟩:=state (new:=[]) (fo:=none) (fval:=undef) (fD:=none) (d:=0) (σ':=σ3) (by simpa using hnd) (by simp) (by simp) (by simp) (fun i _=>⟨rfl,rfl⟩) (by simp) (by simp) (fun _=>rfl) (fun _=>rfl) (fun _ _=>rfl) (fun k id b hk hb=>by
     rw [List.append_nil,List.getElem?_map,Option.map_eq_some_iff] at hk
     obtain ⟨y,hy,rfl⟩:=hk
     rw [List.getElem?_map,hy] at hb
     injection hb with hb
     have hyp:=hpl' y (List.mem_of_getElem? hy)
     have hb:Box.ren false _ y.2=b:=hb
     rw [Qs hyp] at hb
     subst hb
     rw [Qs hyp,hSp.b]
     rw [hss]
     exact hb1 y (hbb▸List.mem_of_getElem? hy)) hback
    have hrep:Rep X w' _ _ rv (.bool bv):=hrep
    have hv:=htr _ _ hrep
    obtain ⟨e1,e2⟩:=rl hr5
    subst e2
    have:=hs.putAct (o:=o) hd hv
    rw [ho] at this
    exact ht.done e1 _ _ _ _ this.2 this.1
   |true=>
   rw [hble] at hr5
   simp only [cond_true] at hr5
   have hful:Out.full (bs2.map fun b=>b.2.ren false (bt (bs2.map (·.1)))) (.ret v cs)= .ret v cs:=by
    unfold Out.full
    dsimp only
    rw [show Nat.ble (bs2.map fun b=>b.2.ren false (bt (bs2.map (·.1)))).length cs.length=true by rw [←hble];simp]
    rfl
   rw [hful] at hret
   obtain ⟨ν',δ',hback,hrep⟩:=hret
   have hle:(bs2.map (·.1)).length≤cs.length:=by simpa using hble
   obtain ⟨hfree,fp5,hr6⟩:=ac5 _ hr5
   generalize hnew:cK ((dst.getD 0+1)*1000) (cs.length-(bs2.map (·.1)).length)=new at hr6 hfree
   have hnl2:new.length=cs.length-(bs2.map (·.1)).length:=by rw [←hnew];exact AB _ _
   have hnn:new.Nodup:=by rw [←hnew];exact (agV _ _).1
   have hfree': ∀id∈new,σ2.b id=none:=fun id hid=>(hSp.b id).symm.trans (hfree id hid).1
   have hlow': ∀id∈new,id<1000000:=fun id hid=>(hfree id hid).2
   have hnd2:(bs2.map (·.1)++new).Nodup:=by
    refine List.nodup_append.2 ⟨hnd,hnn,fun x hx y hy e=> ?_⟩
    subst e
    obtain ⟨z,hz,rfl⟩:=List.mem_map.1 hx
    obtain ⟨kb,hk,_⟩:=hb2 z hz
    have:=h2.free (hfree' _ hy)
    rw [hk] at this;cases this
   have hlen2:(bs2.map (·.1)++new).length=cs.length:=by rw [List.length_append,hnl2];omega
   obtain ⟨σ4,fp6,hr7,s1,s2,s3,s4,s5⟩:=R0 _ hr6
   have hzip:((bs2.map (·.1)++new).zip (cs.map (Box.ren true fun i=>(bs2.map (·.1)++new).getD i 0))).map (·.1)=bs2.map (·.1)++new:=List.map_fst_zip (Nat.le_of_eq (by rw [hlen2];simp))
   have hbn: ∀ (k:Nat) id b,(bs2.map (·.1)++new)[k]? =some id→cs[k]? =some b→σ4.b id=some (b.ren true fun i=>(bs2.map (·.1)++new).getD i 0):=by
    intro k id b hk hb
    have:=s5 (by rw [hzip];exact hnd2) (id,b.ren true fun i=>(bs2.map (·.1)++new).getD i 0) (List.mem_of_getElem? (i:=k) (by rw [List.getElem?_zip_eq_some];exact ⟨hk,by simp [hb]⟩))
    exact this
   have hbo: ∀id,id∉bs2.map (·.1)++new→σ4.b id=σ3.b id:=fun id hid=>s4 id (by rw [hzip];exact hid)
   rcases akO hr7 with ⟨fp7,hr8,hnf⟩|⟨e,l,nv,fp7,hver,hcase⟩
   ·obtain ⟨g',D',hs,htr,_⟩:=state (fo:=none) (fval:=undef) (fD:=none) (d:=0) hnd2 hlen2 hfree' hlow' (fun i _=>⟨s2 i,s3 i⟩) (by simp) (by simp) (fun _=>rfl) s1 hbo hbn hback
    have hv:=htr _ _ (agQ hrep (ain hnf))
    obtain ⟨e1,e2⟩:=rl hr8
    subst e2
    have:=hs.putAct (o:=o) hd hv
    rw [ho] at this
    exact ht.done e1 _ _ _ _ this.2 this.1
   ·
    have fin: ∀ {fval:Value} {fD:Option Nat} {q:PV U},ObOK X w' (NB (ee (c.N g D2) bs2.length ν δ) cs.length ν' δ') (gB U cs.length ν') e l fval .wr fD→(∀b,fD=some b→ ∃j,δ' j=some b)→(put dst q).Rel (jS X CP) ((σ4.setO (dst.getD 0) ⟨nv,e,l⟩).setU (dst.getD 0) .wr) fp7 r τ gp→
      (∀g' D',(∀v p,Rep X w' (NB (ee (c.N g D2) bs2.length ν δ) cs.length ν' δ') (gB U cs.length ν') v p→Rep X w' (c.N g' D') g' v (p.ren true fun i=>(bs2.map (·.1)++new).getD i 0))→g'.κ (dst.getD 0)=some (nv,e,fval)→Rep X w' (c.N g' D') g' rv q)→next (a.put dst rv) w':=by
     intro fval fD q hO hfD hput hq
     obtain ⟨g',D',hs,htr,hκ⟩:=state (fo:=some ⟨nv,e,l⟩) (fval:=fval) (fD:=fD) (d:=dst.getD 0) (σ':=(σ4.setO (dst.getD 0) ⟨nv,e,l⟩).setU (dst.getD 0) .wr) hnd2 hlen2 hfree' hlow' (fun i hi=>by
       have hi':dst.getD 0≠i:=by rcases hi with hi|hi;cases hi;exact Ne.symm hi
       simp [hi',s2 i,s3 i]) (fun ob hob=>by
       injection hob with hob
       subst hob
       exact ⟨by simp,by simp,fun ob0 h0=>hver ob0 ((s2 _).trans h0),hO⟩) hfD (by simp) (fun n=>by simpa using s1 n) (fun id hid=>by simpa using hbo id hid) (fun k id b hk hb=>by simpa using hbn k id b hk hb) hback
     obtain ⟨e1,e2⟩:=rl hput
     subst e2
     have:=hs.putAct (o:=o) hd (hq g' D' htr (hκ _ rfl))
     rw [ho] at this
     exact ht.done e1 _ _ _ _ this.2 this.1
    rcases hcase with ⟨hv,hr8⟩|⟨pre,post,hv,hr8,hpre,hpost⟩
    ·have hv':=Qr hv
     subst hv'
     have hO:ObOK X w' (NB (ee (c.N g D2) bs2.length ν δ) cs.length ν' δ') (gB U cs.length ν') e l rv .wr (δ' 0):=hrep
     exact fin hO (fun b hb=>⟨0,hb⟩) hr8 fun g' D' _ hκ=>by
      obtain ⟨A,n,cp,hval,_⟩:=hO.val
      exact .own _ nv rv nv e rv hκ (Nat.le_refl _) (fun _=>rfl) ⟨A,n,cp,hval⟩
    ·obtain ⟨pvs,rfl,hpvs⟩:=aio hv
     obtain ⟨arr,rfl,harrl,harr⟩:=hrep
     have hlenp:pvs.length=pre.length+1+post.length:=by
      have:=congrArg List.length hpvs;simp at this;omega
     have hj:pre.length<pvs.length:=by omega
     have hgetj:(pvs.map (PV.ren true fun i=>(bs2.map (·.1)++new).getD i 0))[pre.length]? =some (.fresh e l):=by
      rw [←hpvs,List.getElem?_append_right (Nat.le_refl _)];simp
     have hpj:pvs[pre.length]? =some (.fresh e l):=by
      rw [List.getElem?_map,Option.map_eq_some_iff] at hgetj
      obtain ⟨q,hq,hq2⟩:=hgetj
      rw [hq,Qr hq2]
     have hO:=harr _ _ hpj
     refine fin hO (fun b hb=>⟨pre.length,hb⟩) hr8 fun g' D' htr hκ=> ?_
     refine .tuple arr _ (by rw [harrl,hlenp];simp;omega) fun j q hq=> ?_
     obtain ⟨A,n,cp,hval,_⟩:=(show ObOK X w' _ _ e l (arr.getD pre.length undef) .wr (δ' pre.length) from hO).val
     have hothers: ∀ (j:Nat) q,j≠pre.length→(pre++ .fresh e l::post)[j]? =some q→Rep X w' (c.N g' D') g' (arr.getD j undef) q:=by
      intro j q hne hq
      have hq':=hq
      rw [hpvs,List.getElem?_map,Option.map_eq_some_iff] at hq
      obtain ⟨q0,hq0,rfl⟩:=hq
      refine htr _ _ ((harr j q0 hq0).rep ?_)
      rw [←Bk (keep:=true) (ρ:=fun i=>(bs2.map (·.1)++new).getD i 0)]
      by_cases hjl:j<pre.length
      ·rw [List.getElem?_append_left hjl] at hq'
       exact List.all_eq_true.1 hpre _ (List.mem_of_getElem? hq')
      ·rw [List.getElem?_append_right (by omega)] at hq'
       obtain ⟨k,hk⟩: ∃k,j-pre.length=k+1:=⟨j-pre.length-1,by omega⟩
       rw [hk,List.getElem?_cons_succ] at hq'
       exact List.all_eq_true.1 hpost _ (List.mem_of_getElem? hq')
     by_cases hjp:j=pre.length
     ·subst hjp
      rw [List.getElem?_append_right (Nat.le_refl _)] at hq
      simp at hq
      subst hq
      exact .own _ nv _ nv e _ hκ (Nat.le_refl _) (fun _=>rfl) ⟨A,n,cp,hval⟩
     ·refine hothers j q hjp ?_
      by_cases hjl:j<pre.length
      ·rw [List.getElem?_append_left hjl] at hq ⊢;exact hq
      ·rw [List.getElem?_append_right (by omega)] at hq ⊢
       obtain ⟨k,hk⟩: ∃k,j-pre.length=k+1:=⟨j-pre.length-1,by omega⟩
       rw [hk,List.getElem?_cons_succ] at hq ⊢
       exact hq
 |panicked chain=>
  cases out with
  |ret v cs=>
   exfalso
   unfold Out.full at hret
   dsimp only at hret
   revert hret
   cases Nat.ble (bs2.map fun b=>b.2.ren false (bt (bs2.map (·.1)))).length cs.length<;>exact id
  |panic v cs=>
   obtain ⟨hcl,val,rfl,hback,hrep⟩:=hret
   simp only at hr5
   cases hble:Nat.beq (bs2.map (·.1)).length cs.length with
   |false=>rw [hble] at hr5;exact hr5.elim
   |true=>
   rw [hble] at hr5
   simp only [cond_true] at hr5
   have hle:(bs2.map (·.1)).length=cs.length:=by simpa using hble
   obtain ⟨σ4,fp6,hr7,s1,s2,s3,s4,s5⟩:=R0 _ hr5
   obtain ⟨e1,e2,_⟩:=hr7
   subst e2
   have hzip:((bs2.map (·.1)).zip (cs.map (Box.ren true fun i=>(bs2.map (·.1)).getD i 0))).map (·.1)=bs2.map (·.1):=List.map_fst_zip (Nat.le_of_eq (by simpa using hle))
   obtain ⟨g',D',hs,htr,_⟩:=state (new:=[]) (fo:=none) (fval:=undef) (fD:=none) (d:=0) (cs:=cs) (ν':=ν) (δ':=fun _=>none) (by simpa using hnd) (by simpa using hle) (by simp) (by simp) (fun i _=>⟨s2 i,s3 i⟩) (by simp) (by simp) (fun _=>rfl) s1
    (fun id hid=>s4 id (by rw [hzip];simpa using hid)) (fun k id b hk hb=>by
     rw [List.append_nil] at hk ⊢
     exact s5 (by rw [hzip];exact hnd) (id,b.ren true fun i=>(bs2.map (·.1)).getD i 0) (List.mem_of_getElem? (i:=k) (by rw [List.getElem?_zip_eq_some];exact ⟨hk,by simp [hb]⟩))) hback
   rw [hcl] at htr
   have hv:=htr _ _ hrep
   rw [List.append_nil] at hv
   exact ht.raise _ e1 w' g' D' val hv hs
theorem ZU (h:Sim X c a.tmps w σ g D) {give:List Bool} {p:PV U} {ps:List (PV U)} {fv:Value} {xs:Array Value} (hp:Rep X w (c.N g D) g fv p) (hxl:ps.length=xs.size)
  (hx: ∀ (j:Nat) q,ps[j]? =some q→Rep X w (c.N g D) g (xs.getD j undef) q) {o:Oper} (ho:o.dst=dst) (hd:bq c.nt o=true) (hr:(iV give dst p ps).Rel (ci X) σ fp r τ gp) (ht:Then X c a r τ next Q):
  ∃f a0s bs,fv= .func (.func f) a0s bs∧(∃fn,P.funcs[f]? =some fn∧(fn.name== "runtime.NumGoroutine")=false∧fn.body.isNone=false)∧
   Calls P f (a0s++xs++bs) w fun
    | .returned v,w''=>next (a.put dst v) w''
    | .panicked chain,w''=>Q (.panic chain) a w''
    | .outgrown,_=>LetsOut Q:=
 Jv (CP:=Calls P) (fun hc hm=>hc.mono hm) h hp hxl hx ho hd hr ht
end
end Go.Proofs.YtfkkpkhfjpaafaaGreatDoor.PI
namespace Go.Proofs.YtfkkpkhfjpaafaaGreatDoor.PI
open Go
set_option linter.unusedVariables false
set_option linter.unusedSimpArgs false
section
variable {U:Uni} {V:Env U} {P:Program} {X:Link V P} {S:Side U} {c:Ctx} {a:Act} {w:World} {σ:St U} {g:Gh U} {D:Nat→Option Nat}
variable {next:Act→World→Prop} {Q:Exit→Act→World→Prop} {r:MR U} {τ:St U} {fp gp:List Loc} {N:aN}
variable {dst:Option Tmp} {ty:TypeId} {pos:String} {after:Array Edge} {gd:Option (Nat×Bool)}
def lf (X:Link V P):Prop:= ∀ (f:FuncId) (ps:List (PV U)) (e:U.E) (l l':List (U.El e)),V.inpl f ps e l=some l'→
 (∃fn,P.funcs[f]? =some fn∧(fn.name== "runtime.NumGoroutine")=false∧fn.body.isNone=false)∧
 ∀ (w:World) (vs:Array Value) (N0:aN) (δ:Nat→Option Nat),Given X w vs N0 (fun _=>0) δ (.fresh e l::ps) []→(∀j,j≠0→δ j=none)→Calls P f vs w fun
  | .returned rv,w'=>rv= .tuple #[]∧Ext (i9 0 (ps.length+1) (fun _=>0) δ) w w'∧ObOK X w' (NB N0 0 (fun _=>0) δ) (gB U 0 fun _=>0) e l' (vs.getD 0 undef) .wr (δ 0)
  |_,_=>False
theorem adm (hI:lf X) (h:Sim X c a.tmps w σ g D) {f:FuncId} {x:PV U} {ps:List (PV U)} {xs:Array Value} (hxl:ps.length+1=xs.size) (hx:Rep X w (c.N g D) g (xs.getD 0 undef) x)
  (hps: ∀ (j:Nat) q,ps[j]? =some q→Rep X w (c.N g D) g (xs.getD (j+1) undef) q) {o:Oper} (ho:o.dst=dst) (hd:bq c.nt o=true) (hr:(EM V dst f x ps).Rel (ci X) σ fp r τ gp) (ht:Then X c a r τ next Q):
  (∃fn,P.funcs[f]? =some fn∧(fn.name== "runtime.NumGoroutine")=false∧fn.body.isNone=false)∧Calls P f xs w fun
   | .returned v,w''=>next (a.put dst v) w''
   | .panicked chain,w''=>Q (.panic chain) a w''
   | .outgrown,_=>LetsOut Q:=by
 unfold EM at hr
 split at hr
 case h_2=>exact hr.elim
 rename_i i ver
 obtain ⟨ob,fp1,hob,hver,hr1⟩:=mF hr
 simp only [M.Rel] at hr1
 have hO:=GV h hx hob hver
 cases hu:σ.u i with
 |read=>rw [hu] at hr1;exact hr1.elim
 |app=>rw [hu] at hr1;exact hr1.elim
 |wr=>
 rw [hu] at hr1 hO
 dsimp only at hr1
 cases hb:(PV.noObjL ps&&(PV.idsL ps).isEmpty&&ps.all PV.notFresh) with
 |false=>rw [hb] at hr1;exact hr1.elim
 |true=>
 rw [hb] at hr1
 simp only [Bool.and_eq_true] at hb
 obtain ⟨⟨hno,hids⟩,hnf⟩:=hb
 have hids':PV.idsL ps=[]:=by simpa using hids
 obtain ⟨l',hl',hr2⟩:=hr1
 obtain ⟨h1,h2⟩:=hI _ _ _ _ _ hl'
 refine ⟨h1, ?_⟩
 let δ:Nat→Option Nat:=fun j=>if j=0 then D i else none
 have hδ: ∀j b,δ j=some b→j=0∧D i=some b:=by
  intro j b hj
  simp only [δ] at hj
  split at hj
  ·exact ⟨‹_›,hj⟩
  ·cases hj
 have hNB:NB (ee (c.N g D) 0 (fun _=>0) δ) 0 (fun _=>0) δ=c.N g D:=Jw (fun k o hk=>by omega) fun j b o hj=> .inr (.inr ⟨i,(hδ j b hj).2⟩)
 have hgiven:Given X w xs (ee (c.N g D) 0 (fun _=>0) δ) (fun _=>0) δ (.fresh ob.e ob.l::ps) []:=by
  refine ⟨⟨fun i j hi=>by simp at hi,fun i hi=>by simp at hi,fun j b hj=>(h.dnew i b (hδ j b hj).2).1,fun p q b hp hq=>by rw [(hδ p b hp).1,(hδ q b hq).1],fun j b hj i hi=>by simp at hi,fun b o hn=>⟨Jg h hn.1,by simp,hn.2.2⟩⟩,by simp;omega,fun j b hj=>by rw [(hδ j b hj).1];simp,fun b o hb=>⟨(h.glob hb).1,by simp,fun j hj=>(h.glob hb).2.2 i (hδ j b hj).2⟩,fun j p hp=> ?_,by simp⟩
  simp only [List.length_nil,hNB]
  cases j with
  |zero=>
   simp at hp
   subst hp
   exact hO.turn (fun _ _=>rfl) (fun _ _ _ _=>rfl) (fun _ _ _ h=>h)
  |succ j=>
   have hp':ps[j]? =some p:=by simpa using hp
   have hrep:=(hps j p hp').plain (g':=gB U 0 fun _=>0) (w':=w) (N':=c.N g D) (fun _ _ _ _=>rfl) (fun _ _ _ h=>h) (jt hno hp') fun i hi b hb=>by
    have:=fj hp' i hi
    rw [hids'] at this;cases this
   have:δ (j+1)=none:=by simp [δ]
   rw [this]
   exact RepG.of hrep
 refine (h2 w xs _ δ hgiven fun j hj=>by simp [δ,hj]).mono fun e w' he=> ?_
 cases e with
 |returned rv=>
  obtain ⟨rfl,hext,hO'⟩:=he
  rw [hNB] at hO'
  have hs:Sim X c a.tmps w' (σ.setO i ⟨ob.ver,ob.e,l'⟩) g D:=by
   obtain ⟨val,hkap,hOo⟩:=h.objs i ob hob
   have hval:xs.getD 0 undef=val:=by
    have h0:=hx
    generalize xs.getD 0 undef=v0 at h0
    cases h0 with
    |own _ _ _ ver' e val' hk hle he _=>
     rw [hkap] at hk
     injection hk with e1
     injection e1 with e1 e2
     injection e2 with e2 e3
     subst e1;subst e2;subst e3
     exact he hver.symm
   have hblk: ∀b,b<w.heap.size→D i≠some b→w'.heap[b]? =w.heap[b]? :=fun b hb hne=>hext.block b hb fun hm=>by
    simp only [i9,List.range_zero,List.map_nil,List.nil_append] at hm
    obtain ⟨j,_,hj⟩:=List.mem_filterMap.1 hm
    exact hne (hδ j b hj).2
   refine h.objsTurn (fun j=>j=i) hext.os hext.tape hext.output hext.size (fun b hb hne=>hblk b hb (hne i rfl)) (fun _=>rfl) (fun _=>rfl) rfl (Gh.le.refl g) (fun j b hj=> ?_) (fun j j' b _ hj hj'=>h.dinj _ _ _ hj hj') (fun j hj=>⟨by rw [St.setO_o,if_neg (Ne.symm hj)],rfl,rfl,rfl⟩) (fun j ob' hj ho'=> ?_) (fun j hj ho'=>by subst hj;rw [St.setO_o,if_pos rfl] at ho';cases ho')
   ·by_cases hji:j=i
    ·exact .inr (.inl ⟨i,rfl,by rw [←hji];exact hj⟩)
    ·exact .inl ⟨hji,hj⟩
   ·subst hj
    rw [St.setO_o,if_pos rfl] at ho'
    injection ho' with ho'
    subst ho'
    refine ⟨val,hkap, ?_⟩
    rw [hval] at hO'
    simp only [St.setO_u,hu]
    have hDe:δ 0=D j:=by simp [δ]
    rw [hDe] at hO'
    exact hO'.mono (fun _ _=>rfl) (fun _ _ _ _=>rfl) (fun _ _ _ h=>h) ⟨fun id b hb=>by simp [gB] at hb,fun i ver e val hk=>by simp [gB] at hk⟩
  obtain ⟨e1,e2⟩:=rl hr2
  subst e2
  have:=hs.putAct (o:=o) hd (v:= .tuple #[]) (p:= .tuple []) (.tuple #[] [] rfl (by simp))
  rw [ho] at this
  exact ht.done e1 _ _ _ _ this.2 this.1
 |panicked ch=>exact he.elim
 |outgrown=>exact he.elim
theorem ag_ (hI:lf X) {cl:Call} {f:Operand} (hc:cl.callee= .value f) (hd:bq c.nt ⟨dst,.call cl,ty,pos,after,gd⟩=true) (h:Sim X c a.tmps w σ g D) (hr:(bL V S ⟨dst,.call cl,ty,pos,after,gd⟩).Rel (ci X) σ fp r τ gp)
  (ht:Then X c a r τ next Q):(⟨dst,.call cl,ty,pos,after,gd⟩:Oper).wp P a w next Q:=by
 obtain ⟨callee,args,ats⟩:=cl
 simp only at hc
 subst hc
 simp only [bL] at hr
 obtain ⟨p,fp1,hp,hr1⟩:=b9 h hr
 obtain ⟨ps,fp2,hl,hps,hr2⟩:=zX h hr1
 have hargs: ∀ (j:Nat) q,ps[j]? =some q→Rep X w (c.N g D) g ((args.map a.eval).getD j undef) q:=fun j q hq=>by
  rw [pT (l:=args.toList.map a.eval) j (by simp)];exact hps j q hq
 have hsz:ps.length=(args.map a.eval).size:=by simpa using hl
 have fin: ∀ {gid:FuncId} {a0s bs:Array Value},a.eval f= .func (.func gid) a0s bs→(∃fn,P.funcs[gid]? =some fn∧(fn.name== "runtime.NumGoroutine")=false∧fn.body.isNone=false)→Calls P gid (a0s++args.map a.eval++bs) w (fun
    | .returned v,w''=>next (a.put dst v) w''
    | .panicked chain,w''=>Q (.panic chain) a w''
    | .outgrown,_=>LetsOut Q)→(⟨dst,.call ⟨.value f,args,ats⟩,ty,pos,after,gd⟩:Oper).wp P a w next Q:=by
  intro gid a0s bs he hfn hcalls
  obtain ⟨fn,f1,f2,f3⟩:=hfn
  unfold Oper.wp
  rw [aiG rfl he,QP f1 f2 f3]
  exact hcalls
 split at hr2
 ·rename_i gid x rest hin
  have hx0:=hargs 0 x rfl
  obtain ⟨h1,h2⟩:=adm hI h (o:=⟨dst,.call ⟨.value f,args,ats⟩,ty,pos,after,gd⟩) (xs:=args.map a.eval) (by simpa using hsz) hx0 (fun j q hq=>hargs (j+1) q (by simpa using hq)) rfl hd hr2 ht
  generalize he:a.eval f=fv at hp
  cases hp with
  |func _ _ _ a0s bs ha hb _ _=>
   have ha':a0s= #[]:=by simpa using ha
   have hb':bs= #[]:=by simpa using hb
   subst ha';subst hb'
   exact fin he h1 (by simpa using h2)
 ·obtain ⟨gid,a0s,bs,he,hfn,hcalls⟩:=ZU h (o:=⟨dst,.call ⟨.value f,args,ats⟩,ty,pos,after,gd⟩) hp hsz hargs rfl hd hr2 ht
  exact fin he hfn hcalls
end
end Go.Proofs.YtfkkpkhfjpaafaaGreatDoor.PI
namespace Go.Proofs.YtfkkpkhfjpaafaaGreatDoor.PI
open Go
set_option linter.unusedVariables false
set_option linter.unusedSimpArgs false
section
variable {U:Uni} {V:Env U} {P:Program} {X:Link V P} {K:cj U} {S:Side U} {c:Ctx} {a:Act} {w:World} {σ:St U} {g:Gh U} {D:Nat→Option Nat}
variable {next:Act→World→Prop} {Q:Exit→Act→World→Prop} {r:MR U} {τ:St U} {fp gp:List Loc} {N:aN}
variable {dst:Option Tmp} {ty:TypeId} {pos:String} {after:Array Edge} {gd:Option (Nat×Bool)}
theorem ahk {t:TypeId} (hd:bq c.nt ⟨dst,.makeMap t none,ty,pos,after,gd⟩=true) (h:Sim X c a.tmps w σ g D) (hr:(bL V S ⟨dst,.makeMap t none,ty,pos,after,gd⟩).Rel K σ fp r τ gp)
  (ht:Then X c a r τ next Q):(⟨dst,.makeMap t none,ty,pos,after,gd⟩:Oper).wp P a w next Q:=by
 simp only [bL] at hr
 split at hr
 case h_2=>exact hr.elim
 rename_i d e he
 simp only [M.Rel] at hr
 split at hr
 case h_2=>exact hr.elim
 rename_i hfree
 obtain ⟨h1,h2,_⟩:=hr
 subst h2
 have hs:=h.newBox hfree (c.free (zH hd)) (o:= .map #[] 0) (b:= .map e []) ⟨#[],0,heap_alloc_new w _,rfl,by simp⟩
 obtain ⟨h3,h4⟩:=hs.putAct (o:=⟨some d,.makeMap t none,ty,pos,after,gd⟩) hd (p:= .mp d) (.mp d w.heap.size (by simp [Gh.put]))
 unfold Oper.wp
 have hrun:(execOp a.eval ⟨some d,.makeMap t none,ty,pos,after,gd⟩).run P w= .ok (.value (.map (some w.heap.size))) (w.alloc (.map #[] 0)):=by
  simp [execOp,Instr.makeMap]
 rw [hrun]
 exact ht.done h1 _ _ _ _ h4 h3
structure KeyT (P:Program) (kt:TypeId) (n:Nat) (fs:Array Field):Prop where
 und:P.underlying kt=some (.struct fs)
 stood:P.stoodInHeld kt=false
 size:fs.size=n
 ints: ∀ (i:Nat) (f:Field),fs[i]? =some f→f.name≠ "_" ∧f.offset=i∧ ∃k,P.underlying f.type=some (.int k)
theorem NH {t:TypeId} {e:U.E} (X:Link V P) (h:V.isMt t e=true):(∃b i,P.underlying t=some (.map (X.etid e) b)∧P.info? b=some i∧i.zero=some (.bool false))∧(∃fs,KeyT P (X.etid e) (X.esize e) fs)∧
  ∀x y,∃b,PV.eqvI (V.cells e x) (V.cells e y)=some b:=by
 unfold Env.isMt at h
 split at h
 ·rename_i e' he
  split at h
  ·rename_i hh
   subst hh
   refine ⟨Nx X he, ?_⟩
   unfold Env.mty at he
   split at he
   ·rename_i row hrow
    obtain ⟨⟨fs,h1,h2,h3,h4⟩,h5⟩:=X.keyT t row _ hrow he
    exact ⟨⟨fs,h1,h2,h3,h4⟩,h5⟩
   ·cases he
  ·cases h
 ·cases h
theorem QQ {kt:TypeId} {n:Nat} {fs:Array Field} (hk:KeyT P kt n fs) (em:Bool) (d:Nat) (vs:Array Value) (hs:vs.size=n) (w:World):
  (Instr.checkKey em (d+2) kt (.agg vs)).run P w= .ok () w:=by
 simp only [Instr.checkKey,Sem.run_bind,run_underlying hk.und,Result.andThen_ok]
 rw [←Array.forIn_toList]
 have hf: ∀f∈fs.toList,f.name≠ "_" ∧(∃v,vs[f.offset]? =some v)∧ ∃k,P.underlying f.type=some (.int k):=by
  intro f hf
  obtain ⟨i,hi⟩:=List.mem_iff_getElem?.1 hf
  have hi':fs[i]? =some f:=by simpa using hi
  obtain ⟨h1,h2,h3⟩:=hk.ints i f hi'
  have hlt:i<vs.size:=by rw [hs,←hk.size];exact (Array.getElem?_eq_some_iff.1 hi').1
  exact ⟨h1,⟨vs[i],by rw [h2];simp [hlt]⟩,h3⟩
 generalize fs.toList=l at hf
 induction l with
 |nil=>simp
 |cons f l ih=>
  obtain ⟨h1,⟨v,hv⟩,k,hk'⟩:=hf f (by simp)
  have:=ih fun f hf'=>hf f (by simp [hf'])
  simp only [List.forIn_cons,Sem.run_bind,h1,ne_eq,not_false_eq_true,if_true,G7 hk' hv,Result.andThen_ok,Instr.checkKey,run_underlying hk',Sem.run_pure]
  exact this
def jR (X:Link V P) (w:World) (N:aN) (g:Gh U) (e:U.E) (x:U.El e) (k:Value):Prop:= ∃vs,k= .agg vs∧vs.size=X.esize e∧ ∀ (j:Nat) p,(V.cells e x)[j]? =some p→Rep X w N g (vs.getD j undef) p
theorem aiC {e:U.E} {fs:Array Field} (hk:KeyT P (X.etid e) (X.esize e) fs) {x y:U.El e} {u v:Value} (hx:jR X w N g e x u) (hy:jR X w N g e y v) {b:Bool} (hb:PV.eqvI (V.cells e x) (V.cells e y)=some b):
  (Op.equal (X.etid e) u v).run P w= .ok b w:=by
 obtain ⟨xs,rfl,hxl,hxs⟩:=hx
 obtain ⟨ys,rfl,hyl,hys⟩:=hy
 have hF:P.fieldsOf (X.etid e)=fs:=by simp [Program.fieldsOf,hk.und]
 show (Op.equalIn (9998+1+1) (X.etid e) (.agg xs) (.agg ys)).run P w=_
 rw [run_equalIn_struct w (9998+1) _ xs ys (by rw [hF];exact hk.und) hk.stood,hF]
 exact QR (X:=X) (g:=g) (N:=N) 9998 xs ys fs.toList _ _ 0 b hb (by rw [X.len];simpa using hk.size) (fun i p hi=>by
  simp only [Nat.zero_add];exact ⟨hxs i p hi,by rw [hxl,←X.len e x];exact (List.getElem?_eq_some_iff.1 hi).1⟩) (fun i p hi=>by
  simp only [Nat.zero_add];exact ⟨hys i p hi,by rw [hyl,←X.len e y];exact (List.getElem?_eq_some_iff.1 hi).1⟩) (fun i f hf=>by
  have:=hk.ints i f (by simpa using hf);simpa using this)
theorem QW {e:U.E} {fs:Array Field} (hk:KeyT P (X.etid e) (X.esize e) fs) (htot: ∀x y,∃b,PV.eqvI (V.cells e x) (V.cells e y)=some b) {x:U.El e} {u:Value} (hx:jR X w N g e x u) (b:Bool):
  ∀ (l:List (U.El e×Bool)) (en:List MapEntry) (i:Nat),en.length=l.length→(∀ (j:Nat) y t,l[j]? =some (y,t)→ ∃m,en[j]? =some m∧m.val= .bool t∧jR X w N g e y m.key)→
  (dW V e l x=none∧fz V e l x b=l++[(x,b)]∧(Instr.findAsking (X.etid e) u en i).run P w= .ok none w)∨
  ∃j y t,l[j]? =some (y,t)∧eS V e y x=true∧dW V e l x=some t∧fz V e l x b=l.set j (y,b)∧(Instr.findAsking (X.etid e) u en i).run P w= .ok (some (i+j,.bool t)) w:=by
 intro l
 induction l with
 |nil=>
  intro en i hl _
  have:en=[]:=List.eq_nil_of_length_eq_zero hl
  subst this
  exact .inl ⟨rfl,rfl,rfl⟩
 |cons yt l ih=>
  intro en i hl hen
  obtain ⟨y,t⟩:=yt
  cases en with
  |nil=>simp at hl
  |cons m en=>
   obtain ⟨m',hm,hmv,hmk⟩:=hen 0 y t rfl
   simp at hm
   subst hm
   obtain ⟨bb,hbb⟩:=htot x y
   obtain ⟨bc,hbc⟩:=htot y x
   have hsym:bb=bc:=by
    have key: ∀ (a0s bs:List (PV U)) (p q:Bool),PV.eqvI a0s bs=some p→PV.eqvI bs a0s=some q→p=q:=by
     intro a0s
     induction a0s with
     |nil=>intro bs p q h1 h2;cases bs with
      |nil=>simp [PV.eqvI] at h1 h2;rw [h1,h2]
      |cons=>simp [PV.eqvI] at h1
     |cons z a0s ih2=>
      intro bs p q h1 h2
      obtain ⟨hlen,hh⟩:=ur h1
      cases bs with
      |nil=>simp at hlen
      |cons z' bs=>
       obtain ⟨k,m1,m2,rfl,rfl⟩:=hh 0 z z' rfl rfl
       simp only [PV.eqvI,if_true] at h1 h2
       split at h1
       case h_2=>cases h1
       rename_i p1 hp1
       split at h2
       case h_2=>cases h2
       rename_i q1 hq1
       have:=ih2 bs p1 q1 hp1 hq1
       injection h1 with h1
       injection h2 with h2
       rw [←h1,←h2,this]
       congr 1
       exact Bool.eq_iff_iff.2 ⟨fun h=>by simp at h ⊢;exact h.symm,fun h=>by simp at h ⊢;exact h.symm⟩
    exact key _ _ _ _ hbb hbc
   have heq:=aiC (w:=w) hk hx hmk hbb
   have hel:eS V e y x=bb:=by unfold eS;rw [hbc,hsym]
   simp only [Instr.findAsking,Sem.run_bind,heq,Result.andThen_ok]
   cases bb with
   |true=>
    refine .inr ⟨0,y,t,rfl,hel,by simp [dW,hel],by simp [fz,hel], ?_⟩
    simp [hmv]
   |false=>
    rcases ih en (i+1) (by simpa using hl) (fun j y t hj=>hen (j+1) y t (by simpa using hj)) with ⟨h1,h2,h3⟩|⟨j,y',t',h1,h2,h3,h4,h5⟩
    ·exact .inl ⟨by simp [dW,hel,h1],by simp [fz,hel,h2],by simp [h3]⟩
    ·refine .inr ⟨j+1,y',t',by simpa using h1,h2,by simp [dW,hel,h3],by simp [fz,hel,h4], ?_⟩
     rw [show i+(j+1)=i+1+j by omega]
     simp [h5]
theorem Uk (h:Sim X c a.tmps w σ g D) {t:TypeId} {m key:PV U} {mv kv:Value} {k:(id:Nat)→(e:U.E)→List (U.El e×Bool)→U.El e→M U} (hm:Rep X w (c.N g D) g mv m) (hk:Rep X w (c.N g D) g kv key) (hr:(B6 V t m key k).Rel K σ fp r τ gp):
  ∃id e l x fp' kb,(k id e l x).Rel K σ fp' r τ gp∧mv= .map (some kb)∧g.μ id=some kb∧σ.b id=some (.map e l)∧V.isMt t e=true∧jR X w (c.N g D) g e x kv∧BoxOK X w (c.N g D) g kb (.map e l):=by
 unfold B6 at hr
 split at hr
 ·rename_i id cs
  simp only [M.Rel] at hr
  split at hr
  ·rename_i e l hb
   cases hE:V.isMt t e with
   |false=>rw [hE] at hr;exact hr.elim
   |true=>
    rw [hE] at hr
    simp only [cond_true] at hr
    split at hr
    ·rename_i x hx
     obtain ⟨kb,hkb,hbox⟩:=h.boxes _ _ hb
     obtain ⟨t1,t2,t3⟩:=X.toEl _ _ _ hx
     cases hm with
     |mp _ b hb2=>
      rw [hb2] at hkb
      injection hkb with hkb
      subst hkb
      cases hk with
      |agg vs _ hl hh=>
       refine ⟨id,e,l,x,_,b,hr,rfl,hb2,hb,hE,⟨vs,rfl,hl.trans t1,fun j p hp=> ?_⟩,hbox⟩
       have hj:j<cs.length:=by have:=(List.getElem?_eq_some_iff.1 hp).1;rw [X.len] at this;omega
       obtain ⟨q,hq,hless⟩:=t3 j _ (List.getElem?_eq_getElem hj)
       rw [hp] at hq
       injection hq with hq
       subst hq
       exact (hh j _ (List.getElem?_eq_getElem hj)).less hless
    ·exact hr.elim
  ·exact hr.elim
 ·exact hr.elim
theorem QX {e:U.E} {fs:Array Field} (hk:KeyT P (X.etid e) (X.esize e) fs) (u:Value) (en:List MapEntry) (w:World):(Instr.findKey (X.etid e) u en).run P w=(Instr.findAsking (X.etid e) u en 0).run P w:=by
 cases en with
 |nil=>simp [Instr.findKey,run_underlying hk.und,Instr.findNow,Instr.findAsking]
 |cons m en=>
  have:Instr.findNow (.struct fs) u (m::en) 0=none:=by
   cases u<;>rfl
  simp only [Instr.findKey,Sem.run_bind,run_underlying hk.und,Result.andThen_ok,this]
theorem Nw {kb:Nat} {e:U.E} {l:List (U.El e×Bool)} (hb:BoxOK X w N g kb (.map e l)): ∃en cl,w.heap[kb]? =some (.map en cl)∧en.toList.length=l.length∧
  ∀ (j:Nat) y t,l[j]? =some (y,t)→ ∃m,en.toList[j]? =some m∧m.val= .bool t∧jR X w N g e y m.key:=by
 obtain ⟨en,cl,h1,h2,h3⟩:=hb
 refine ⟨en,cl,h1,by simpa using h2,fun j y t hj=> ?_⟩
 obtain ⟨m,vs,e1,e2,e3,e4,e5⟩:=h3 j y t hj
 exact ⟨m,by simpa using e1,e2,vs,e3,e4,e5⟩
theorem ahh {t:TypeId} {m x:Operand} {ok:Bool} (hd:bq c.nt ⟨dst,.lookup t m x ok,ty,pos,after,gd⟩=true) (h:Sim X c a.tmps w σ g D) (hr:(bL V S ⟨dst,.lookup t m x ok,ty,pos,after,gd⟩).Rel K σ fp r τ gp)
  (ht:Then X c a r τ next Q):(⟨dst,.lookup t m x ok,ty,pos,after,gd⟩:Oper).wp P a w next Q:=by
 obtain ⟨p,fp1,hp,hr1⟩:=b9 h hr
 obtain ⟨q,fp2,hq,hr2⟩:=b9 h hr1
 obtain ⟨id,e,l,y,fp3,kb,hr3,hmv,hμ,hbx,hE,hkey,hbox⟩:=Uk h hp hq hr2
 obtain ⟨⟨vb,i,hu,hi,hz⟩,⟨fs,hT⟩,htot⟩:=NH X hE
 obtain ⟨en,cl,hblk,hlen,hent⟩:=Nw hbox
 obtain ⟨vs,hkv,hvs,_⟩:=hkey
 have hck:=QQ (P:=P) hT en.isEmpty 9998 vs hvs w
 have hzv:(zeroValue vb).run P w= .ok (.bool false) w:=by simp [zeroValue,typeInfo,hi,hz]
 have hrun0: ∀ {res:Option (Nat×Value)},(Instr.findAsking (X.etid e) (a.eval x) en.toList 0).run P w= .ok res w→(execOp a.eval ⟨dst,.lookup t m x ok,ty,pos,after,gd⟩).run P w=
   .ok (.value (match res with|some (_,v)=>if ok then .tuple #[v,.bool true] else v|none=>if ok then .tuple #[.bool false,.bool false] else .bool false)) w:=by
  intro res hres
  rw [←QX hT] at hres
  simp only [execOp,Instr.lookup,Sem.run_bind,run_underlying hu,Result.andThen_ok,hmv,G6 hblk,Sem.run_pure]
  rw [hkv] at hres ⊢
  rw [show (10000:Nat)=9998+2 from rfl,hck]
  simp only [Result.andThen_ok,hres]
  cases res with
  |none=>simp [hzv]
  |some iv=>obtain ⟨i,v⟩:=iv;simp
 rcases QW (w:=w) hT htot (b:=true) ⟨vs,hkv,hvs,‹_›⟩ l en.toList 0 hlen hent with ⟨h1,_,h3⟩|⟨j,y',t',h1,_,h2,_,h3⟩
 ·rw [h1] at hr3
  refine bN hd ht h (hrun0 h3) ?_ hr3
  cases ok with
  |true=>
   refine .tuple _ _ rfl fun j p hp=> ?_
   match j,hp with
   |0,hp=>simp at hp;subst hp;exact .bool _
   |1,hp=>simp at hp;subst hp;exact .bool _
  |false=>exact .bool _
 ·rw [h2] at hr3
  refine bN hd ht h (hrun0 h3) ?_ hr3
  cases ok with
  |true=>
   refine .tuple _ _ rfl fun j p hp=> ?_
   match j,hp with
   |0,hp=>simp at hp;subst hp;exact .bool _
   |1,hp=>simp at hp;subst hp;exact .bool _
  |false=>exact .bool _
theorem KD: ∀ {a0s bs:List (PV U)},PV.eqvI a0s bs=some true→a0s=bs:=by
 intro a0s
 induction a0s with
 |nil=>intro bs h;cases bs with
  |nil=>rfl
  |cons=>simp [PV.eqvI] at h
 |cons z a0s ih=>
  intro bs h
  obtain ⟨hlen,hh⟩:=ur h
  cases bs with
  |nil=>simp at hlen
  |cons z' bs=>
   obtain ⟨k,m1,m2,rfl,rfl⟩:=hh 0 z z' rfl rfl
   simp only [PV.eqvI,if_true] at h
   split at h
   case h_2=>cases h
   rename_i p1 hp1
   injection h with h
   simp only [Bool.and_eq_true] at h
   obtain ⟨h1,h2⟩:=h
   subst h2
   have:m1=m2:=by simpa using h1
   rw [this,ih hp1]
theorem aec {e:U.E} {x y:U.El e} {u v:Value} (hx:jR X w N g e x u) (hy:jR X w N g e y v) (he:PV.eqvI (V.cells e y) (V.cells e x)=some true):(Instr.keyThatStays v u).run P w= .ok u w:=by
 obtain ⟨xs,rfl,hxl,hxs⟩:=hx
 obtain ⟨ys,rfl,hyl,hys⟩:=hy
 have heq:=KD he
 obtain ⟨_,hints⟩:=ur he
 have hsame:Instr.sameBits (9999+1) (.agg ys) (.agg xs)=true:=by
  simp only [Instr.sameBits,Bool.and_eq_true,List.all_eq_true]
  refine ⟨by simp [hxl,hyl],fun z hz=> ?_⟩
  obtain ⟨j,hj⟩:=List.mem_iff_getElem?.1 hz
  obtain ⟨a1,a2⟩:=z
  rw [List.getElem?_zip_eq_some] at hj
  obtain ⟨h1,h2⟩:=hj
  simp only [Array.getElem?_toList] at h1 h2
  have hlt:j<(V.cells e x).length:=by rw [X.len,←hxl];exact (Array.getElem?_eq_some_iff.1 h2).1
  have hc:=List.getElem?_eq_getElem hlt
  have hc':(V.cells e y)[j]? =some (V.cells e x)[j]:=by rw [heq];exact hc
  obtain ⟨k,m1,m2,e1,e2⟩:=hints j _ _ hc' hc
  have r1:=hys j _ hc'
  have r2:=hxs j _ hc
  rw [e1] at r1 r2
  have q1:=c6 r1
  have q2:=c6 r2
  rw [Array.getD_eq_getD_getElem?,h1] at q1
  rw [Array.getD_eq_getD_getElem?,h2] at q2
  simp only [Option.getD_some] at q1 q2
  rw [q1,q2]
  simp [Instr.sameBits]
 simp only [Instr.keyThatStays]
 rw [show (10000:Nat)=9999+1 from rfl,hsame]
 rfl
theorem ahl {t:TypeId} {m x y:Operand} (h:Sim X c a.tmps w σ g D) (hr:(bL V S ⟨dst,.mapUpdate t m x y,ty,pos,after,gd⟩).Rel K σ fp r τ gp)
  (ht:Then X c a r τ next Q):(⟨dst,.mapUpdate t m x y,ty,pos,after,gd⟩:Oper).wp P a w next Q:=by
 cases hdst:dst with
 |some d=>subst hdst;exact hr.elim
 |none=>
 subst hdst
 have hdst:(none:Option Tmp)=none:=rfl
 obtain ⟨p,fp1,hp,hr1⟩:=b9 h hr
 obtain ⟨q,fp2,hq,hr2⟩:=b9 h hr1
 obtain ⟨z,fp3,hz,hr3⟩:=b9 h hr2
 split at hr3
 case h_2=>exact hr3.elim
 rename_i b
 have hzv:=kV hz
 obtain ⟨id,e,l,k,fp4,kb,hr4,hmv,hμ,hbx,hE,hkey,hbox⟩:=Uk h hp hq hr3
 obtain ⟨e1,e2,_⟩:=hr4
 subst e2
 obtain ⟨⟨vb,i,hu,hi,hzr⟩,⟨fs,hT⟩,htot⟩:=NH X hE
 obtain ⟨en,cl,hblk,hlen,hent⟩:=Nw hbox
 have hkey':=hkey
 obtain ⟨vs,hkv,hvs,hvr⟩:=hkey
 have hck:=QQ (P:=P) hT false 9998 vs hvs w
 have hlt:kb<w.heap.size:=(Array.getElem?_eq_some_iff.1 hblk).1
 have hw: ∀ (o:Obj) b o',b<w.heap.size→ ¬ (c.N g D) b o'→({w with heap:=w.heap.setIfInBounds kb o}:World).cell? ⟨b,o',none⟩=w.cell? ⟨b,o',none⟩:=fun o b o' _ hn=>by
  have:kb≠b:=fun e=>hn (.inr (.inl ⟨id,e▸hμ⟩))
  unfold World.cell?
  simp [this]
 have fin: ∀ {en':Array MapEntry} {cl':Nat},(Instr.mapUpdate t (a.eval m) (a.eval x) (a.eval y)).run P w= .ok () {w with heap:=w.heap.setIfInBounds kb (.map en' cl')}→en'.size=(fz V e l k b).length→
   (∀ (j:Nat) y t,(fz V e l k b)[j]? =some (y,t)→ ∃m,en'[j]? =some m∧m.val= .bool t∧jR X w (c.N g D) g e y m.key)→(⟨none,.mapUpdate t m x y,ty,pos,after,gd⟩:Oper).wp P a w next Q:=by
  intro en' cl' hrun hsz hen
  have hs:=h.setBox hμ (w':={w with heap:=w.heap.setIfInBounds kb (.map en' cl')}) (b:= .map e (fz V e l k b)) rfl rfl rfl (by simp) (fun b' hb'=>by simp [Ne.symm hb']) ⟨en',cl',by simp [hlt],hsz,fun j y t hj=>by
   obtain ⟨m,f1,f2,vs',f3,f4,f5⟩:=hen j y t hj
   exact ⟨m,vs',f1,f2,f3,f4,fun q p hp=>(f5 q p hp).mono X (hw _) (fun _ _ _ h=>h) (Gh.le.refl g)⟩⟩
  exact wp_skip ht hdst hs (by simp [execOp,hrun]) e1
 have base: ∀ {res:Option (Nat×Value)},(Instr.findAsking (X.etid e) (a.eval x) en.toList 0).run P w= .ok res w→(Instr.mapUpdate t (a.eval m) (a.eval x) (a.eval y)).run P w=
   (match res with
    |some (i,_)=>(do let key←Instr.keyThatStays (((en[i]?).map (·.key)).getD (a.eval x)) (a.eval x);setObj kb (.map (en.modify i fun e=>{e with key,val:=a.eval y}) cl):Sem Unit).run P w
    |none=>(setObj kb (.map (en.push {key:=a.eval x,val:=a.eval y,born:=cl}) (cl+1))).run P w):=by
  intro res hres
  rw [←QX hT] at hres
  simp only [Instr.mapUpdate,Sem.run_bind,run_underlying hu,Result.andThen_ok,hmv,G6 hblk]
  rw [hkv] at hres ⊢
  rw [show (10000:Nat)=9998+2 from rfl,hck]
  simp only [Result.andThen_ok,hres]
  cases res with
  |none=>rfl
  |some iv=>simp only [Sem.run_bind]
 rcases QW (w:=w) hT htot (b:=b) hkey' l en.toList 0 hlen hent with ⟨h1,h2,h3⟩|⟨j,y',t',h1,hEq,h2,h4,h3⟩
 ·refine fin ((base h3).trans (QZ _ hblk)) (by rw [h2];simp;simpa using hlen) fun j y1 t1 hj=> ?_
  rw [h2] at hj
  by_cases hjl:j<l.length
  ·rw [List.getElem?_append_left hjl] at hj
   obtain ⟨m1,f1,f2,f3⟩:=hent j y1 t1 hj
   have:j<en.size:=by simpa using (List.getElem?_eq_some_iff.1 f1).1
   exact ⟨m1,by rw [Array.getElem?_push_lt this];rw [Array.getElem?_toList] at f1;rw [←f1];simp [this],f2,f3⟩
  ·rw [List.getElem?_append_right (by omega)] at hj
   have hj0:j-l.length=0:=by
    have:=(List.getElem?_eq_some_iff.1 hj).1;simp at this;omega
   rw [hj0] at hj
   simp at hj
   obtain ⟨rfl,rfl⟩:=hj
   have hje:j=en.size:=by simp at hlen;omega
   subst hje
   exact ⟨{key:=a.eval x,val:=a.eval y,born:=cl},by simp,hzv,hkey'⟩
 ·obtain ⟨m1,f1,f2,f3⟩:=hent j y' t' h1
  rw [Nat.zero_add] at h3
  have hm1:en[j]? =some m1:=by simpa using f1
  have hst:(Instr.keyThatStays (((en[j]?).map (·.key)).getD (a.eval x)) (a.eval x)).run P w= .ok (a.eval x) w:=by
   rw [hm1]
   refine aec hkey' f3 ?_
   obtain ⟨bb,hbb⟩:=htot y' k
   unfold eS at hEq
   rw [hbb] at hEq
   simp only at hEq
   rw [hbb,hEq]
  refine fin ((base h3).trans ?_) (en':=en.modify j fun e=>{e with key:=a.eval x,val:=a.eval y}) (cl':=cl) (by rw [h4];simp;simpa using hlen) fun q y1 t1 hq=> ?_
  ·simp only [Sem.run_bind,hst,Result.andThen_ok]
   exact QZ _ hblk
  ·rw [h4,List.getElem?_set] at hq
   rw [Array.getElem?_modify]
   by_cases hjq:j=q
   ·subst hjq
    rw [if_pos rfl] at hq ⊢
    split at hq
    case isFalse=>cases hq
    injection hq with hq
    injection hq with g1 g2
    subst g1;subst g2
    refine ⟨_,by rw [hm1];rfl,hzv, ?_⟩
    obtain ⟨bb,hbb⟩:=htot y' k
    unfold eS at hEq
    rw [hbb] at hEq
    simp only at hEq
    subst hEq
    refine ⟨vs,hkv,hvs,fun j p hp=>hvr j p ?_⟩
    rw [←KD hbb];exact hp
   ·rw [if_neg hjq] at hq ⊢
    obtain ⟨m2,f4,f5,f6⟩:=hent q y1 t1 hq
    exact ⟨m2,by simpa using f4,f5,f6⟩
end
end Go.Proofs.YtfkkpkhfjpaafaaGreatDoor.PI
namespace Go.Proofs.YtfkkpkhfjpaafaaGreatDoor.PI
open Go
set_option linter.unusedVariables false
section
variable {U:Uni} {K:cj U} {R:Type} {C:Oracle U R}
theorem St.setR_self (σ:St U) (n:Nat) {v:PV U} (h:σ.r n=v):σ.eqv (σ.setR n v):=by
 intro k
 grind [St.setR_at,St.at_]
theorem gx (hC:C.Tells K): ∀ (m:M U) {σ σ0:St U} {fp:List Loc} {κ:MR U→St U→List Loc→Option R} {x:R},m.cps C σ fp κ=some x→σ0.eqv σ→
  ∃r τ0 τ gp,m.Rel K σ0 fp r τ0 gp∧τ0.eqv τ∧κ r τ gp=some x:=by
 intro m
 induction m with
 |done=>intro σ σ0 fp κ x h he;exact ⟨_,_,_,_,⟨rfl,rfl,rfl⟩,he,h⟩
 |fail=>intro σ σ0 fp κ x h he;cases h
 |raise v=>intro σ σ0 fp κ x h he;exact ⟨_,_,_,_,⟨rfl,rfl,rfl⟩,he,h⟩
 |out o=>intro σ σ0 fp κ x h he;exact ⟨_,_,_,_,⟨rfl,rfl,rfl⟩,he,h⟩
 |getR n k ih=>
  intro σ σ0 fp κ x h he
  obtain ⟨r,τ0,τ,gp,hr,ht,hk⟩:=ih _ h he
  exact ⟨r,τ0,τ,gp,by simp only [M.Rel];rw [he.r n];exact hr,ht,hk⟩
 |setR n v m ih=>
  intro σ σ0 fp κ x h he
  exact ih h (fun k=>by rw [St.setR_at,St.setR_at,he k])
 |getB n k ih=>
  intro σ σ0 fp κ x h he
  obtain ⟨r,τ0,τ,gp,hr,ht,hk⟩:=ih _ h he
  exact ⟨r,τ0,τ,gp,by simp only [M.Rel];rw [he.b n];exact hr,ht,hk⟩
 |setB n v m ih=>
  intro σ σ0 fp κ x h he
  exact ih h (fun k=>by rw [St.setB_at,St.setB_at,he k])
 |getO n k ih=>
  intro σ σ0 fp κ x h he
  obtain ⟨r,τ0,τ,gp,hr,ht,hk⟩:=ih _ h he
  exact ⟨r,τ0,τ,gp,by simp only [M.Rel];rw [he.o n];exact hr,ht,hk⟩
 |setO n v m ih=>
  intro σ σ0 fp κ x h he
  exact ih h (fun k=>by rw [St.setO_at,St.setO_at,he k])
 |getU n k ih=>
  intro σ σ0 fp κ x h he
  obtain ⟨r,τ0,τ,gp,hr,ht,hk⟩:=ih _ h he
  exact ⟨r,τ0,τ,gp,by simp only [M.Rel];rw [he.u n];exact hr,ht,hk⟩
 |setU n v m ih=>
  intro σ σ0 fp κ x h he
  exact ih h (fun k=>by rw [St.setU_at,St.setU_at,he k])
 |frz n m ih=>
  intro σ σ0 fp κ x h he
  exact ih h (fun k=>by rw [St.setU_at,St.setU_at,he k])
 |ask o k ih=>
  intro σ σ0 fp κ x h he
  cases o with
  |none=>cases h
  |some y=>
   obtain ⟨r,τ0,τ,gp,hr,ht,hk⟩:=ih y h he
   exact ⟨r,τ0,τ,gp,⟨y,rfl,hr⟩,ht,hk⟩
 |case j m1 m2 m3 i1 i2 i3=>
  intro σ σ0 fp κ x h he
  simp only [M.cps] at h
  split at h
  ·rename_i b hb
   cases b with
   |true=>
    obtain ⟨r,τ0,τ,gp,hr,ht,hk⟩:=i1 (σ0:=σ0) h (he.trans (St.setR_self σ j hb))
    exact ⟨r,τ0,τ,gp,.inl ⟨(he.r j).trans hb,hr⟩,ht,hk⟩
   |false=>
    obtain ⟨r,τ0,τ,gp,hr,ht,hk⟩:=i2 (σ0:=σ0) h (he.trans (St.setR_self σ j hb))
    exact ⟨r,τ0,τ,gp,.inr (.inl ⟨(he.r j).trans hb,hr⟩),ht,hk⟩
  ·rename_i hb
   obtain ⟨r,τ0,τ,gp,hr,ht,hk⟩:=i3 h he
   exact ⟨r,τ0,τ,gp,.inr (.inr ⟨(he.r j).trans hb,hr⟩),ht,hk⟩
  simp_all
 |call f a bs k ih=>
  intro σ σ0 fp κ x h he
  obtain ⟨out,ho,hk⟩:=hC _ _ _ _ _ h
  obtain ⟨r,τ0,τ,gp,hr,ht,hk'⟩:=ih out hk he
  exact ⟨r,τ0,τ,gp,⟨out,ho,hr⟩,ht,hk'⟩
variable (V:Env U) (S:Side U) (K) (ann:Nat→Option Ann)
def mW (all:List Oper):List Oper→St U→List (List Loc)→Ex U→St U→Prop
 |[],σ,fps,e,σ'=>fps=[]∧e= .normal∧σ'=σ
 |o::r,σ,fps,e,σ'=>
  (∃σ1 f fps',(jv V S o (gJ all)).Rel K σ [] .done σ1 f∧mW all r σ1 fps' e σ'∧fps=f::fps')∨
  (∃v f,(jv V S o (gJ all)).Rel K σ [] (.raise v) σ' f∧e= .panic v∧fps=[f])
theorem QK (hC:C.Tells K) (all:List Oper): ∀ (ops:List Oper) {σ σ0:St U} {fps0:List (List Loc)} {κ:Ex U→St U→List (List Loc)→Option R} {x:R},rD V S C all ops fps0 σ κ=some x→σ0.eqv σ→
  ∃e fps τ0 τ,mW K V S all ops σ0 fps e τ0∧τ0.eqv τ∧κ e τ (fps0++fps)=some x:=by
 intro ops
 induction ops with
 |nil=>intro σ σ0 fps0 κ x h he;exact ⟨_,[],_,_,⟨rfl,rfl,rfl⟩,he,by grind [rD]⟩
 |cons o r ih=>
  intro σ σ0 fps0 κ x h he
  simp only [rD] at h
  obtain ⟨q,τ0,τ,gp,hr,ht,hk⟩:=gx hC _ h he
  cases q with
  |done=>
   obtain ⟨e,fps,ρ0,ρ,h1,h2,h3⟩:=ih hk ht
   exact ⟨e,gp::fps,ρ0,ρ,.inl ⟨τ0,gp,fps,hr,h1,rfl⟩,h2,by grind⟩
  |raise v=>exact ⟨.panic v,[gp],τ0,τ,.inr ⟨v,gp,hr,rfl,rfl⟩,ht,hk⟩
  |out o=>cases hk
inductive Big:Option Ann→Code→St U→Ex U→St U→Prop
 |skip (σ):Big none .skip σ .normal σ
 |label (l σ):Big none (.label l) σ .normal σ
 |region (id ops draw σ e σ' fps) (hd:ops.toList.all (bq S.nt)=true) (h:mW K V S ops.toList ops.toList σ fps e σ')
   (hf:draw=true→e= .normal∧ik 0 ops.toList=true∧lP (dE ops.toList []) 0 [] fps=true):Big none (.region id ops draw) σ e σ'
 |regionP (id ops σ v σ' σ'' τ fps) (hd:ops.toList.all (bq S.nt)=true) (h:mW K V S ops.toList ops.toList σ fps (.panic v) σ') (he:σ'.eqv σ'') (hv:v.isErr=true) (hf:vR V S ops.toList σ σ'' fps=true)
  (hc:dS (iN σ σ'') σ''=some τ):Big none (.region id ops true) σ (.panic v) τ
 |seqN (a b σ σ1 e σ') (h1:Big none a σ .normal σ1) (h2:Big none b σ1 e σ'):Big none (.seq a b) σ e σ'
 |seqJ (a b A σ σ1 τ e σ') (h1:Big none a σ .normal σ1) (hA:ann (1000000+ji b)=some A) (hc:dS A σ1=some τ) (h2:Big none b τ e σ'):Big none (.seq a b) σ e σ'
 |seqE (a b σ e σ') (h1:Big none a σ e σ') (he:e≠ .normal):Big none (.seq a b) σ e σ'
 |cond (j a b σ t e σ') (hj:σ.r j= .bool t) (h:Big none (bif t then a else b) σ e σ'):Big none (.cond (.tmp j) a b) σ e σ'
 |blockIn (id a σ σ') (h:Big none a σ (.exit id) σ'):Big none (.block id a) σ .normal σ'
 |blockOut (id a σ e σ') (h:Big none a σ e σ') (he:e≠ .exit id):Big none (.block id a) σ e σ'
 |loop (a A σ τ e σ') (hA:ann (ji a)=some A) (hc:dS A σ=some τ) (h:Big (some A) a τ e σ'):Big none (.loop a) σ e σ'
 |scope (a σ e σ') (h:Big none a σ e σ'):Big none (.scope a) σ e σ'
 |exit (id σ):Big none (.exit id) σ (.exit id) σ
 |ret (σ):Big none .ret σ .ret σ
 |round (a A σ σ1 τ e σ') (h:Big none a σ .normal σ1) (hc:dS A σ1=some τ) (h':Big (some A) a τ e σ'):Big (some A) a σ e σ'
 |leave (a A σ e σ') (h:Big none a σ e σ') (he:e≠ .normal):Big (some A) a σ e σ'
 |pre (o c σ0 σ e σ') (he:σ0.eqv σ) (h:Big o c σ e σ'):Big o c σ0 e σ'
 |post (o c σ e σ1 σ') (he:σ1.eqv σ') (h:Big o c σ e σ1):Big o c σ e σ'
theorem Bv (hC:C.Tells K) (fuel:Nat): ∀ (c:Code) {σ:St U} {κ:Ex U→St U→Option R} {x:R},run V S C ann fuel c σ κ=some x→ ∃e τ,Big K V S ann none c σ e τ∧κ e τ=some x:=by
 intro c
 induction c with
 |skip=>intro σ κ x h;exact ⟨_,_,.skip σ,h⟩
 |label l=>intro σ κ x h;exact ⟨_,_,.label l σ,h⟩
 |region id ops draw=>
  intro σ κ x h
  simp only [run] at h
  cases hd:ops.toList.all (bq S.nt) with
  |false=>grind
  |true=>
  rw [hd] at h
  simp only [cond_true] at h
  obtain ⟨e,fps,τ0,τ,hr,ht,hk⟩:=QK K V S hC _ _ h (St.eqv.refl σ)
  cases e with
  |normal=>
   simp only [List.nil_append] at hk
   cases hb:(!draw||(ik 0 ops.toList&&lP (dE ops.toList []) 0 [] fps)) with
   |false=>grind
   |true=>
    rw [hb] at hk
    refine ⟨_,_,.post _ _ _ _ _ _ ht (.region id ops draw σ _ τ0 fps hd hr fun hdr=> ?_),hk⟩
    grind
  |exit id=>cases draw<;>simp at hk;exact ⟨_,_,.post _ _ _ _ _ _ ht (.region _ ops _ σ _ τ0 fps hd hr (by simp)),hk⟩
  |ret=>cases draw<;>simp at hk;exact ⟨_,_,.post _ _ _ _ _ _ ht (.region _ ops _ σ _ τ0 fps hd hr (by simp)),hk⟩
  |panic v=>
   cases draw with
   |false=>simp at hk;exact ⟨_,_,.post _ _ _ _ _ _ ht (.region _ ops _ σ _ τ0 fps hd hr (by simp)),hk⟩
   |true=>
    simp only [List.nil_append,cond_true] at hk
    cases hf:(v.isErr&&vR V S ops.toList σ τ fps) with
    |false=>grind
    |true=>
     rw [hf] at hk
     simp only [cond_true] at hk
     simp only [Bool.and_eq_true] at hf
     split at hk
     ·rename_i τ2 hc
      exact ⟨_,_,.regionP _ ops σ v τ0 τ τ2 fps hd hr ht hf.1 hf.2 hc,hk⟩
     grind
 |seq a b ia ib=>
  intro σ κ x h
  simp only [run] at h
  obtain ⟨e,τ,h1,h2⟩:=ia h
  cases e with
  |normal=>
   simp only at h2
   split at h2
   ·rename_i A hA
    split at h2
    ·rename_i τ1 hc
     have h2:run V S C ann fuel b τ1 κ=some x:=by
      cases fuel with
      |zero=>cases h2
      |succ n=>exact h2
     obtain ⟨e',τ',h3,h4⟩:=ib h2
     exact ⟨e',τ',.seqJ _ _ _ _ _ _ _ _ h1 hA hc h3,h4⟩
    grind
   ·obtain ⟨e',τ',h3,h4⟩:=ib h2;exact ⟨e',τ',.seqN _ _ _ _ _ _ h1 h3,h4⟩
  |exit id=>exact ⟨_,_,.seqE _ _ _ _ _ h1 (by simp),h2⟩
  |ret=>exact ⟨_,_,.seqE _ _ _ _ _ h1 (by simp),h2⟩
  |panic v=>exact ⟨_,_,.seqE _ _ _ _ _ h1 (by simp),h2⟩
 |cond cc a b ia ib=>
  intro σ κ x h
  simp only [run] at h
  split at h
  ·rename_i j
   split at h
   ·rename_i t ht
    cases t with
    |true=>
     obtain ⟨e,τ,h1,h2⟩:=ia h
     exact ⟨e,τ,.pre _ _ _ _ _ _ (St.setR_self σ j ht) (.cond j a b _ true e τ (by simp) h1),h2⟩
    |false=>
     obtain ⟨e,τ,h1,h2⟩:=ib h
     exact ⟨e,τ,.pre _ _ _ _ _ _ (St.setR_self σ j ht) (.cond j a b _ false e τ (by simp) h1),h2⟩
   simp_all
  simp_all
 |block id a ia=>
  intro σ κ x h
  simp only [run] at h
  obtain ⟨e,τ,h1,h2⟩:=ia h
  cases e with
  |exit j=>
   simp only at h2
   cases hj:Nat.beq j id with
   |true=>
    rw [hj] at h2
    have:j=id:=by simp_all
    subst this
    exact ⟨_,_,.blockIn _ _ _ _ h1,h2⟩
   |false=>
    rw [hj] at h2
    exact ⟨_,_,.blockOut _ _ _ _ _ h1 (fun e=>by simp_all),h2⟩
  |normal=>exact ⟨_,_,.blockOut _ _ _ _ _ h1 (by simp),h2⟩
  |ret=>exact ⟨_,_,.blockOut _ _ _ _ _ h1 (by simp),h2⟩
  |panic v=>exact ⟨_,_,.blockOut _ _ _ _ _ h1 (by simp),h2⟩
 |loop a ia=>
  intro σ κ x h
  simp only [run] at h
  split at h
  ·rename_i A hA
   split at h
   ·rename_i τ hc
    have key: ∀ (n:Nat) (τ:St U) (κ:Ex U→St U→Option R) (x:R),uR (dS A) (fun σ κ=>run V S C ann fuel a σ κ) n τ κ=some x→ ∃e ρ,Big K V S ann (some A) a τ e ρ∧κ e ρ=some x:=by
     intro n
     induction n with
     |zero=>intro τ κ x h;cases h
     |succ n ih=>
      intro τ κ x h
      simp only [uR] at h
      obtain ⟨e,ρ,h1,h2⟩:=ia h
      cases e with
      |normal=>
       simp only [back] at h2
       split at h2
       ·rename_i τ' hc'
        obtain ⟨e',ρ',h3,h4⟩:=ih τ' κ x h2
        exact ⟨e',ρ',.round _ _ _ _ _ _ _ h1 hc' h3,h4⟩
       grind
      |exit id=>exact ⟨_,_,.leave _ _ _ _ _ h1 (by simp),h2⟩
      |ret=>exact ⟨_,_,.leave _ _ _ _ _ h1 (by simp),h2⟩
      |panic v=>exact ⟨_,_,.leave _ _ _ _ _ h1 (by simp),h2⟩
    obtain ⟨e,ρ,h1,h2⟩:=key _ _ _ _ h
    exact ⟨e,ρ,.loop _ _ _ _ _ _ hA hc h1,h2⟩
   simp_all
  simp_all
 |scope a ia=>
  intro σ κ x h
  simp only [run] at h
  obtain ⟨e,τ,h1,h2⟩:=ia h
  exact ⟨_,_,.scope _ _ _ _ h1,h2⟩
 |exit id=>intro σ κ x h;exact ⟨_,_,.exit id σ,h⟩
 |ret=>intro σ κ x h;exact ⟨_,_,.ret σ,h⟩
 |_=>intro σ κ x h;cases h
end
end Go.Proofs.YtfkkpkhfjpaafaaGreatDoor.PI
namespace Go.Proofs.YtfkkpkhfjpaafaaGreatDoor.PI
open Go
set_option linter.unusedVariables false
set_option linter.unusedSimpArgs false
section
variable {U:Uni} {V:Env U} {P:Program} (X:Link V P) (K:cj U) (S:Side U) (c:Ctx)
def mV:Prop:= ∀ (o:Oper) (a:Act) (w:World) (σ:St U) (g:Gh U) (D:Nat→Option Nat) (r:MR U) (τ:St U) (fp gp:List Loc) (next:Act→World→Prop) (Q:Exit→Act→World→Prop),
 bq c.nt o=true→Sim X c a.tmps w σ g D→(bL V S o).Rel K σ fp r τ gp→Then X c a r τ next Q→o.wp P a w next Q
def Lands (ds:List Deferred) (e:Ex U) (σ':St U) (Q:Exit→Act→World→Prop):Prop:=
 ∀a' w' g' D',a'.defers=ds→Sim X c a'.tmps w' σ' g' D'→match e with
  | .normal=>Q .normal a' w'
  | .exit id=>Q (.exit id) a' w'
  | .ret=>Q .ret a' w'
  | .panic v=> ∀val,Rep X w' (c.N g' D') g' val v→Q (.panic [{v:=val,recovered:=false}]) a' w'
variable {X K S c} {a:Act} {w:World} {σ:St U} {g:Gh U} {D:Nat→Option Nat} {Q:Exit→Act→World→Prop} {ops:Array Oper}
theorem Uy {tm:Array Value} {j d:Nat} (hd:gJ ops.toList j=some d) {b:Bool} (h:tm.getD d undef= .bool b):yielded ops tm j=some b:=by
 have ho:(ops[j]?).bind (·.dst)=some d:=by
  unfold gJ at hd
  simp only [Array.getElem?_toList] at hd
  cases h2:ops[j]? with
  |none=>rw [h2] at hd;cases hd
  |some o=>rw [h2] at hd;exact hd
 have ht:tm[d]? =some (.bool b):=by
  rw [Array.getD_eq_getD_getElem?] at h
  cases h2:tm[d]? with
  |none=>rw [h2] at h;cases h
  |some v=>rw [h2] at h;simpa using h
 simp [yielded,ho,ht]
theorem alz {tm:Array Value} {j d:Nat} (hd:gJ ops.toList j=some d) (h:tm.getD d undef=undef):yielded ops tm j=none:=by
 have ho:(ops[j]?).bind (·.dst)=some d:=by
  unfold gJ at hd
  simp only [Array.getElem?_toList] at hd
  cases h2:ops[j]? with
  |none=>rw [h2] at hd;cases hd
  |some o=>rw [h2] at hd;exact hd
 unfold yielded
 rw [ho]
 simp only [Option.bind_some]
 rw [Array.getD_eq_getD_getElem?] at h
 cases h2:tm[d]? with
 |none=>rfl
 |some v=>rw [h2] at h;simp only [Option.getD_some] at h;subst h;rfl
theorem vv (hS:mV X K S c) {o:Oper} {r:MR U} {τ:St U} {fp:List Loc} {next:Act→World→Prop} (hd:bq c.nt o=true) (h:Sim X c a.tmps w σ g D) (hr:(jv V S o (gJ ops.toList)).Rel K σ [] r τ fp)
  (ht:Then X c a r τ next Q):if Region.wanted o (yielded ops a.tmps) then o.wp P a w next Q∨(o.asks P a w∧LetsOut Q) else next (a.put o.dst undef) w:=by
 have skip: ∀ {fp' gp'},(put o.dst (.tuple []):M U).Rel K σ fp' r τ gp'→next (a.put o.dst undef) w:=by
  intro fp' gp' hp
  obtain ⟨h1,h2⟩:=rl hp
  subst h2
  obtain ⟨h3,h4⟩:=h.putAct hd (v:=undef) (p:= .tuple []) (.tuple #[] [] rfl (by simp))
  exact ht.done h1 _ _ _ _ h4 h3
 have go: ∀ {fp' gp'},(bL V S o).Rel K σ fp' r τ gp'→o.wp P a w next Q:=fun h'=>hS _ _ _ _ _ _ _ _ _ _ _ _ hd h h' ht
 unfold jv at hr
 cases hg:o.guard with
 |none=>rw [hg] at hr;rw [if_pos (by simp [Region.wanted,hg])];exact .inl (go hr)
 |some jw=>
  obtain ⟨j,want⟩:=jw
  rw [hg] at hr
  simp only at hr
  split at hr
  ·exact hr.elim
  ·rename_i d hj
   have hR:=h.regs d
   rcases hr with ⟨hb,hr⟩|⟨hb,hr⟩|⟨hb,hr⟩
   ·rw [hb] at hR
    have hy:=Uy hj (kV hR)
    cases want with
    |true=>rw [if_pos (by simp [Region.wanted,hg,hy])];exact .inl (go hr)
    |false=>rw [if_neg (by simp [Region.wanted,hg,hy])];exact skip hr
   ·rw [hb] at hR
    have hy:=Uy hj (kV hR)
    cases want with
    |true=>rw [if_neg (by simp [Region.wanted,hg,hy])];exact skip hr
    |false=>rw [if_pos (by simp [Region.wanted,hg,hy])];exact .inl (go hr)
   ·rw [hb] at hR
    have hu:a.tmps.getD d undef=undef:=by
     generalize a.tmps.getD d undef=v at hR
     cases hR with
     |tuple vs _ hl _=>
      have:vs= #[]:=by simpa using hl
      subst this;rfl
    have hy:=alz hj hu
    rw [if_neg (by simp [Region.wanted,hg,hy])]
    exact skip hr
theorem Ur (hS:mV X K S c) {e:Ex U} {σ':St U}: ∀ (l:List Oper) (i:Nat) (a:Act) (w:World) (σ:St U) (g:Gh U) (D:Nat→Option Nat) (fps:List (List Loc)),ops.toList.drop i=l→l.all (bq c.nt)=true→Sim X c a.tmps w σ g D→
  mW K V S ops.toList l σ fps e σ'→Lands X c a.defers e σ' Q→wpOps P ops Q (List.range' i l.length) a w:=by
 intro l
 induction l with
 |nil=>
  intro i a w σ g D fps _ _ h hr hl
  obtain ⟨_,h2,h3⟩:=hr
  subst h2;subst h3
  simp only [List.length_nil,List.range'_zero,wpOps]
  exact hl a w g D rfl h
 |cons o l ih=>
  intro i a w σ g D fps hdrop hall h hr hl
  have hi:ops[i]? =some o:=by
   have:=congrArg (·[0]?) hdrop
   simpa using this
  have hdrop':ops.toList.drop (i+1)=l:=by
   rw [←List.drop_drop,hdrop];rfl
  simp only [List.all_cons,Bool.and_eq_true] at hall
  simp only [List.length_cons,List.range'_succ,wpOps,hi]
  rcases hr with ⟨σ1,f,fps',h1,h2,_⟩|⟨v,f,h1,h2,_⟩
  ·exact vv hS hall.1 h h1 ⟨fun _ a' w' g' D' hdf hs=>ih (i+1) a' w' σ1 g' D' fps' hdrop' hall.2 hs h2 (by rw [hdf];exact hl),fun v hv=>by cases hv⟩
  ·subst h2
   refine vv hS hall.1 h h1 ⟨(fun hv=>by cases hv),fun v' hv w' g' D' val hrep hs=> ?_⟩
   injection hv with hv
   subst hv
   exact hl a w' g' D' rfl hs val hrep
def SeqRel (V:Env U) (K:cj U) (S:Side U) (ops:Array Oper):List (Nat×List Loc)→St U→St U→Prop
 |[],σ,σ'=>σ.eqv σ'
 |(i,f)::r,σ,σ'=> ∃o σ1,ops[i]? =some o∧(jv V S o (gJ ops.toList)).Rel K σ [] .done σ1 f∧SeqRel V K S ops r σ1 σ'
theorem SeqRel.pre {l:List (Nat×List Loc)}: ∀ {σ0 σ σ':St U},SeqRel V K S ops l σ σ'→σ.eqv σ0→SeqRel V K S ops l σ0 σ':=by
 induction l with
 |nil=>intro σ0 σ σ' h he;exact he.symm.trans h
 |cons x l ih=>
  obtain ⟨i,f⟩:=x
  intro σ0 σ σ' h he
  obtain ⟨o,σ1,ho,h1,h2⟩:=h
  obtain ⟨τ,h3,h4⟩:=h1.eqv K he
  exact ⟨o,τ,ho,h3,ih h2 h4⟩
theorem SeqRel.front {i:Nat} {f:List Loc} {post:List (Nat×List Loc)}: ∀ (pre:List (Nat×List Loc)) {σ σ':St U},SeqRel V K S ops (pre++(i,f)::post) σ σ'→(∀x∈pre,dD x.2 f=true)→
  SeqRel V K S ops ((i,f)::(pre++post)) σ σ':=by
 intro pre
 induction pre with
 |nil=>intro σ σ' h _;exact h
 |cons x pre ih=>
  obtain ⟨j,g⟩:=x
  intro σ σ' h ha
  obtain ⟨o,σ1,ho,h1,h2⟩:=h
  obtain ⟨o',σ2,ho',h3,h4⟩:=ih h2 (fun x hx=>ha x (by simp [hx]))
  obtain ⟨τ1,τ2,h5,h6,h7⟩:=Rel.swap K h1 h3 (ha (j,g) (by simp))
  exact ⟨o',τ1,ho',h5,o,τ2,ho,h6,h4.pre h7⟩
theorem ZK: ∀ (l:List Oper) (acc:List Nat),∃t,dE l acc=acc++t∧t.length=l.length:=by
 intro l
 induction l with
 |nil=>intro acc;exact ⟨[],by simp [dE],rfl⟩
 |cons o l ih=>
  intro acc
  obtain ⟨t,h1,h2⟩:=ih (acc++[n_ acc o])
  exact ⟨n_ acc o::t,by simp [dE,h1],by simp [h2]⟩
theorem ZL: ∀ (l:List Oper) (acc:List Nat) (k:Nat) (o:Oper),l[k]? =some o→(dE l acc)[acc.length+k]? =some (n_ ((dE l acc).take (acc.length+k)) o):=by
 intro l
 induction l with
 |nil=>intro acc k o h;simp at h
 |cons o' l ih=>
  intro acc k o h
  cases k with
  |zero=>
   simp at h;subst h
   obtain ⟨t,h1,h2⟩:=ZK l (acc++[n_ acc o'])
   simp only [dE,h1,Nat.add_zero,List.append_assoc]
   rw [List.getElem?_append_right (Nat.le_refl _)]
   simp
  |succ k=>
   have:=ih (acc++[n_ acc o']) k o (by simpa using h)
   simp only [List.length_append,List.length_cons,List.length_nil] at this
   simp only [dE]
   rw [show acc.length+(k+1)=acc.length+(0+1)+k by omega]
   exact this
theorem ac1 (acc:List Nat) (j:Nat): ∀ (es:List Edge) (s:Nat),(es.foldl (fun s e=>bif Region.binds .any e then s|||2^e.on|||acc.getD e.on 0 else s) s).testBit j=true→
  s.testBit j=true∨ ∃e∈es,Region.binds .any e=true∧(e.on=j∨(acc.getD e.on 0).testBit j=true):=by
 intro es
 induction es with
 |nil=>intro s h;exact .inl h
 |cons e es ih=>
  intro s h
  simp only [List.foldl_cons] at h
  rcases ih _ h with h1|⟨e',he',h1⟩
  ·cases hb:Region.binds .any e with
   |false=>rw [hb] at h1;exact .inl h1
   |true=>
    rw [hb] at h1
    simp only [cond_true,Nat.testBit_or,Bool.or_eq_true,Nat.testBit_two_pow,decide_eq_true_eq] at h1
    rcases h1 with (h1|h1)|h1
    ·exact .inl h1
    ·exact .inr ⟨e,by simp,hb,.inl h1⟩
    ·exact .inr ⟨e,by simp,hb,.inr h1⟩
  ·exact .inr ⟨e',by simp [he'],h1⟩
theorem Eu: ∀ (l:List Oper) (n k:Nat) (o:Oper),ik n l=true→l[k]? =some o→ ∀e∈o.after.toList,Region.binds .any e=true→e.on<n+k:=by
 intro l
 induction l with
 |nil=>intro n k o _ h;simp at h
 |cons o' l ih=>
  intro n k o hf h e he hb
  simp only [ik,Bool.and_eq_true,List.all_eq_true] at hf
  cases k with
  |zero=>
   simp at h;subst h
   have:=hf.1 e he
   simp [hb] at this
   simpa using this
  |succ k=>
   have:=ih (n+1) k o hf.2 (by simpa using h) e he hb
   omega
def Cb (ops:Array Oper) (L:Nat→Prop):Prop:= ∀ (k:Nat) (o:Oper),L k→ops[k]? =some o→ ∀e∈o.after.toList,Region.binds .any e=true→L e.on
theorem Nz (hf:ik 0 ops.toList=true) {L:Nat→Prop} (hL:Cb ops L) {j:Nat}: ∀ (n k:Nat),k<n→ ∀o,ops[k]? =some o→(∀e∈o.after.toList,Region.binds .any e=true→L e.on)→
  ((dE ops.toList []).getD k 0).testBit j=true→L j:=by
 intro n
 induction n with
 |zero=>intro k hk;omega
 |succ n ih=>
  intro k hk o ho hdir hb
  have hm:=ZL ops.toList [] k o (by simpa using ho)
  simp only [List.length_nil,Nat.zero_add] at hm
  rw [List.getD_eq_getElem?_getD,hm,Option.getD_some] at hb
  unfold n_ at hb
  rcases ac1 _ _ _ _ hb with h|⟨e,he,hbe,h⟩
  ·simp at h
  ·have hlt:=Eu _ 0 k o hf (by simpa using ho) e he hbe
   rw [Nat.zero_add] at hlt
   rcases h with h|h
   ·exact h▸hdir e he hbe
   ·have hLe:=hdir e he hbe
    rw [List.getD_eq_getElem?_getD,List.getElem?_take_of_lt hlt,←List.getD_eq_getElem?_getD] at h
    have hon:e.on<ops.size:=by have:=(Array.getElem?_eq_some_iff.1 ho).1;omega
    exact ih e.on (by omega) _ (Array.getElem?_eq_getElem hon) (fun e' he' hb'=>hL _ _ hLe (Array.getElem?_eq_getElem hon) e' he' hb') h
theorem aj6: ∀ (l:List Oper) (i:Nat) (σ σ':St U) (fps:List (List Loc)),ops.toList.drop i=l→mW K V S ops.toList l σ fps .normal σ'→fps.length=l.length∧SeqRel V K S ops ((List.range' i l.length).zip fps) σ σ':=by
 intro l
 induction l with
 |nil=>
  intro i σ σ' fps _ h
  obtain ⟨h1,_,h3⟩:=h
  subst h1;subst h3
  exact ⟨rfl,St.eqv.refl _⟩
 |cons o l ih=>
  intro i σ σ' fps hd h
  have hi:ops[i]? =some o:=by
   have:=congrArg (·[0]?) hd
   simpa using this
  have hd':ops.toList.drop (i+1)=l:=by rw [←List.drop_drop,hd];rfl
  rcases h with ⟨σ1,f,fps',h1,h2,h3⟩|⟨v,f,_,h2,_⟩
  ·subst h3
   obtain ⟨h4,h5⟩:=ih (i+1) σ1 σ' fps' hd' h2
   exact ⟨by simp [h4],o,σ1,hi,h1,h5⟩
  ·cases h2
theorem KJ (before:List Nat): ∀ (fs:List (List Loc)) (j:Nat) (done:List (List Loc)),j=done.length→lP before j done fs=true→ ∀ (p q:Nat) (f g:List Loc),p<q→(done++fs)[p]? =some f→(done++fs)[q]? =some g→done.length≤q→
  (before.getD q 0).testBit p=true∨dD f g=true:=by
 intro fs
 induction fs with
 |nil=>
  intro j done _ _ p q f g _ _ hq hle
  rw [List.append_nil] at hq
  have:=(List.getElem?_eq_some_iff.1 hq).1
  omega
 |cons h fs ih=>
  intro j done hj hf p q f g hpq hp hq hle
  simp only [lP,Bool.and_eq_true,List.all_eq_true] at hf
  by_cases hqd:q=done.length
  ·subst hqd
   rw [List.getElem?_append_left hpq] at hp
   rw [List.getElem?_append_right (Nat.le_refl _)] at hq
   simp at hq
   subst hq
   have hmem:(f,p)∈done.zip (cK 0 done.length):=by
    have hn: ∀ (n s k:Nat),k<n→(cK s n)[k]? =some (s+k):=by
     intro n
     induction n with
     |zero=>intro s k hk;omega
     |succ n ihn=>
      intro s k hk
      cases k with
      |zero=>simp [cK]
      |succ k=>simp only [cK,List.getElem?_cons_succ];rw [ihn (s+1) k (by omega)];congr 1;omega
    have hpl:p<done.length:=hpq
    have h1:=hn done.length 0 p hpl
    rw [Nat.zero_add] at h1
    exact List.mem_of_getElem? (i:=p) (by rw [List.getElem?_zip_eq_some];exact ⟨hp,h1⟩)
   have:=hf.1 _ hmem
   simp only [Bool.or_eq_true] at this
   rw [hj] at this
   exact this
  ·have:=ih (j+1) (done++[h]) (by simp [hj]) hf.2 p q f g hpq (by simpa using hp) (by simpa using hq) (by simp;omega)
   exact this
structure Left (ops:Array Oper) (fps:List (List Loc)) (listed:Array Bool) (rem:List (Nat×List Loc)):Prop where
 size:listed.size=ops.size
 fst:rem.map (·.1)=(List.range ops.size).filter fun i=> !listed.getD i true
 fp: ∀x∈rem,fps[x.1]? =some x.2
 closed:Cb ops fun i=>listed.getD i false=true
theorem acU {n i:Nat} {listed:Array Bool} (hi:i<listed.size): ∀ (l:List Nat),(l.filter fun j=> !(listed.setIfInBounds i true).getD j true)=(l.filter fun j=> !listed.getD j true).filter (fun j=>j !=i):=by
 intro l
 rw [List.filter_filter]
 congr 1
 funext j
 by_cases hj:i=j
 ·subst hj
  simp [Array.getD_eq_getD_getElem?,hi]
 ·have:(listed.setIfInBounds i true).getD j true=listed.getD j true:=by
   simp [Array.getD_eq_getD_getElem?,hj]
  rw [this]
  have h2:(j !=i)=true:=by simp;exact fun e=>hj e.symm
  simp [h2]
theorem alp (hS:mV X K S c) (hall:ops.toList.all (bq c.nt)=true) {fps:List (List Loc)} (hfor:ik 0 ops.toList=true) (hfree:lP (dE ops.toList []) 0 [] fps=true) {σ':St U} {ds:List Deferred} (hl:Lands X c ds .normal σ' Q):
  ∀ (fuel:Nat) (listed:Array Bool) (rem:List (Nat×List Loc)) (a:Act) (w:World) (σ:St U) (g:Gh U) (D:Nat→Option Nat),rem.length=fuel→Left ops fps listed rem→a.defers=ds→Sim X c a.tmps w σ g D→SeqRel V K S ops rem σ σ'→
  wpAny P .any ops Q fuel listed a w:=by
 intro fuel
 have sub: ∀ (listed:Array Bool) (rem:List (Nat×List Loc)),Left ops fps listed rem→ ∀i,i∈Region.ready .any ops listed→ ∃f,(i,f)∈rem∧ ∃o,ops[i]? =some o∧ ∀e∈o.after.toList,Region.binds .any e=true→listed.getD e.on false=true:=by
  intro listed rem hL i hi
  simp only [Region.ready,List.mem_filter,List.mem_range,Bool.and_eq_true] at hi
  have hm:i∈rem.map (·.1):=by rw [hL.fst];exact List.mem_filter.2 ⟨List.mem_range.2 hi.1,hi.2.1⟩
  obtain ⟨x,hx,hx1⟩:=List.mem_map.1 hm
  obtain ⟨j,f⟩:=x
  simp only at hx1
  subst hx1
  refine ⟨f,hx,ops[j],Array.getElem?_eq_getElem hi.1,fun e he hb=> ?_⟩
  have h2:=hi.2.2
  rw [Array.getElem?_eq_getElem hi.1] at h2
  simp only [Option.map_some,Option.getD_some] at h2
  have:=Array.all_eq_true_iff_forall_mem.1 h2 e (Array.mem_toList_iff.1 he)
  simpa [hb] using this
 induction fuel with
 |zero=>
  intro listed rem a w σ g D hlen hL hds h hseq
  have:rem=[]:=List.eq_nil_of_length_eq_zero hlen
  subst this
  refine ⟨?_,hl a w g D hds (h.eqv hseq)⟩
  cases hr:Region.ready .any ops listed with
  |nil=>rfl
  |cons i r=>
   obtain ⟨f,hf,_⟩:=sub listed [] hL i (by rw [hr];simp)
   cases hf
 |succ fuel ih=>
  intro listed rem a w σ g D hlen hL hds h hseq
  refine ⟨fun hr=> ?_,fun i hi=> ?_⟩
  ·
   exfalso
   cases rem with
   |nil=>simp at hlen
   |cons x rest=>
    obtain ⟨i,f⟩:=x
    have hm:i∈(List.range ops.size).filter fun i=> !listed.getD i true:=by rw [←hL.fst];simp
    simp only [List.mem_filter,List.mem_range] at hm
    have hmin: ∀j,j<i→listed.getD j false=true:=by
     intro j hj
     have hjn:j<ops.size:=by omega
     cases hlj:listed.getD j true with
     |true=>
      have hjs:j<listed.size:=by rw [hL.size];exact hjn
      simp [Array.getD_eq_getD_getElem?,hjs] at hlj ⊢
      exact hlj
     |false=>
      exfalso
      have hjm:j∈(List.range ops.size).filter fun i=> !listed.getD i true:=List.mem_filter.2 ⟨List.mem_range.2 hjn,by rw [hlj];rfl⟩
      have hsorted:((List.range ops.size).filter fun i=> !listed.getD i true).Pairwise (· < ·):=(List.pairwise_lt_range).filter _
      rw [←hL.fst] at hjm hsorted
      simp only [List.map_cons,List.mem_cons,List.pairwise_cons] at hjm hsorted
      rcases hjm with e|hjm
      ·omega
      ·have:=hsorted.1 j hjm;omega
    have hin:i∈Region.ready .any ops listed:=by
     simp only [Region.ready,List.mem_filter,List.mem_range,Bool.and_eq_true]
     refine ⟨hm.1,hm.2, ?_⟩
     rw [Array.getElem?_eq_getElem hm.1]
     simp only [Option.map_some,Option.getD_some]
     refine Array.all_eq_true_iff_forall_mem.2 fun e he=> ?_
     cases hb:Region.binds .any e with
     |false=>rfl
     |true=>
      have:=Eu ops.toList 0 i _ hfor (by simp [hm.1]) e (Array.mem_toList_iff.2 he) hb
      simp only [Bool.not_true,Bool.false_or]
      exact hmin _ (by omega)
    rw [hr] at hin
    cases hin
  ·obtain ⟨f,hf,o,ho,hdir⟩:=sub listed rem hL i hi
   obtain ⟨pre,post,hpp⟩:=List.append_of_mem hf
   subst hpp
   have hsorted:((List.range ops.size).filter fun i=> !listed.getD i true).Pairwise (· < ·):=(List.pairwise_lt_range).filter _
   rw [←hL.fst] at hsorted
   have hpre: ∀x∈pre,dD x.2 f=true:=by
    intro x hx
    have hlt:x.1<i:=by
     rw [List.map_append,List.pairwise_append] at hsorted
     exact hsorted.2.2 x.1 (List.mem_map_of_mem hx) i (by simp)
    have h1:=hL.fp x (by simp [hx])
    have h2:=hL.fp (i,f) (by simp)
    rcases KJ _ fps 0 [] rfl hfree x.1 i x.2 f hlt (by simpa using h1) (by simpa using h2) (by simp) with hb|hb
    ·exfalso
     have hin:=Nz hfor hL.closed (i+1) i (Nat.lt_succ_self i) o ho hdir hb
     have hmem:x.1∈(List.range ops.size).filter fun i=> !listed.getD i true:=by rw [←hL.fst];simp;exact .inl ⟨x.2,hx⟩
     simp only [List.mem_filter,List.mem_range] at hmem
     have hs:x.1<listed.size:=by rw [hL.size];exact hmem.1
     simp [Array.getD_eq_getD_getElem?,hs] at hin hmem
     rw [hin] at hmem
     simp at hmem
    ·exact hb
   obtain ⟨o',σ1,ho',h1,h2⟩:=hseq.front pre hpre
   rw [ho] at ho'
   injection ho' with ho'
   subst ho'
   have hi':i<listed.size:=by rw [hL.size];exact (Array.getElem?_eq_some_iff.1 ho).1
   have hdo:bq c.nt o=true:=List.all_eq_true.1 hall o (Array.mem_toList_iff.2 (Array.mem_of_getElem? ho))
   unfold wpOp
   rw [ho]
   refine vv hS hdo h h1 ⟨fun _ a' w' g' D' hdf hs=>ih (listed.setIfInBounds i true) (pre++post) a' w' σ1 g' D' (by simp at hlen ⊢;omega) ⟨by simp [hL.size], ?_,fun x hx=>hL.fp x (by simp at hx ⊢;rcases hx with h|h<;>simp [h]),fun k o' hk ho' e he hb=> ?_⟩ (hdf.trans hds) hs h2,(fun v hv=>by cases hv)⟩
   ·rw [acU hi' (n:=0),←hL.fst]
    have hne: ∀x∈pre++post,x.1≠i:=by
     intro x hx
     rw [List.map_append,List.map_cons] at hsorted
     have hnd:(pre.map (·.1)++i::post.map (·.1)).Nodup:=hsorted.imp (fun h=>Nat.ne_of_lt h)
     intro e
     have hx':i∈pre.map (·.1)++post.map (·.1):=by rw [←List.map_append,←e];exact List.mem_map_of_mem hx
     obtain ⟨_,n2,n3⟩:=List.nodup_append.1 hnd
     rcases List.mem_append.1 hx' with h|h
     ·exact n3 i h i (by simp) rfl
     ·exact (List.nodup_cons.1 n2).1 h
    simp only [List.map_append,List.map_cons,List.filter_append]
    rw [List.filter_cons_of_neg (by simp)]
    rw [←List.filter_append,←List.map_append,List.filter_eq_self.2]
    intro j hj
    obtain ⟨x,hx,rfl⟩:=List.mem_map.1 hj
    simp [hne x hx]
   ·by_cases hki:k=i
    ·subst hki
     rw [ho] at ho'
     injection ho' with ho'
     subst ho'
     have:=hdir e he hb
     by_cases hei:k=e.on
     ·rw [←hei];simp [Array.getD_eq_getD_getElem?,hi']
     ·simpa [Array.getD_eq_getD_getElem?,hei] using this
    ·have hk':listed.getD k false=true:=by
      simpa [Array.getD_eq_getD_getElem?,Ne.symm hki] using hk
     have:=hL.closed k o' hk' ho' e he hb
     by_cases hei:i=e.on
     ·rw [←hei];simp [Array.getD_eq_getD_getElem?,hi']
     ·simpa [Array.getD_eq_getD_getElem?,hei] using this
theorem aj7: ∀ (l:List Oper) (i:Nat) (σ σ':St U) (fps:List (List Loc)) (v:PV U),ops.toList.drop i=l→mW K V S ops.toList l σ fps (.panic v) σ'→
  ∃fs f o σ1,fps=fs++[f]∧ops[i+fs.length]? =some o∧SeqRel V K S ops ((List.range' i fs.length).zip fs) σ σ1∧(jv V S o (gJ ops.toList)).Rel K σ1 [] (.raise v) σ' f:=by
 intro l
 induction l with
 |nil=>intro i σ σ' fps v _ h;obtain ⟨_,h2,_⟩:=h;cases h2
 |cons o l ih=>
  intro i σ σ' fps v hd h
  have hi:ops[i]? =some o:=by
   have:=congrArg (·[0]?) hd
   simpa using this
  have hd':ops.toList.drop (i+1)=l:=by rw [←List.drop_drop,hd];rfl
  rcases h with ⟨σ1,f,fps',h1,h2,h3⟩|⟨v',f,h1,h2,h3⟩
  ·subst h3
   obtain ⟨fs,f',o',σ2,h4,h5,h6,h7⟩:=ih (i+1) σ1 σ' fps' v hd' h2
   subst h4
   refine ⟨f::fs,f',o',σ2,rfl, ?_,⟨o,σ1,hi,h1,h6⟩,h7⟩
   rw [List.length_cons,show i+(fs.length+1)=i+1+fs.length by omega];exact h5
  ·injection h2 with h2
   subst h2
   exact ⟨[],f,o,σ,h3,by simpa using hi,St.eqv.refl _,h1⟩
def SeqR (V:Env U) (K:cj U) (S:Side U) (ops:Array Oper):List (Nat×List Loc×MR U)→St U→St U→Prop
 |[],σ,σ'=>σ.eqv σ'
 |(i,f,r)::l,σ,σ'=> ∃o σ1,ops[i]? =some o∧(jv V S o (gJ ops.toList)).Rel K σ [] r σ1 f∧SeqR V K S ops l σ1 σ'
theorem SeqR.pre {l:List (Nat×List Loc×MR U)}: ∀ {σ0 σ σ':St U},SeqR V K S ops l σ σ'→σ.eqv σ0→SeqR V K S ops l σ0 σ':=by
 induction l with
 |nil=>intro σ0 σ σ' h he;exact he.symm.trans h
 |cons x l ih=>
  obtain ⟨i,f,r⟩:=x
  intro σ0 σ σ' h he
  obtain ⟨o,σ1,ho,h1,h2⟩:=h
  obtain ⟨τ,h3,h4⟩:=h1.eqv K he
  exact ⟨o,τ,ho,h3,ih h2 h4⟩
theorem SeqR.append {l l':List (Nat×List Loc×MR U)}: ∀ {σ σ1 σ':St U},SeqR V K S ops l σ σ1→SeqR V K S ops l' σ1 σ'→SeqR V K S ops (l++l') σ σ':=by
 induction l with
 |nil=>intro σ σ1 σ' h h';exact h'.pre (St.eqv.symm h)
 |cons x l ih=>
  obtain ⟨i,f,r⟩:=x
  intro σ σ1 σ' h h'
  obtain ⟨o,σ2,ho,h1,h2⟩:=h
  exact ⟨o,σ2,ho,h1,ih h2 h'⟩
theorem SeqR.ofSeq: ∀ {l:List (Nat×List Loc)} {σ σ':St U},SeqRel V K S ops l σ σ'→SeqR V K S ops (l.map fun x=>(x.1,x.2,.done)) σ σ':=by
 intro l
 induction l with
 |nil=>intro σ σ' h;exact h
 |cons x l ih=>
  obtain ⟨i,f⟩:=x
  intro σ σ' h
  obtain ⟨o,σ1,ho,h1,h2⟩:=h
  exact ⟨o,σ1,ho,h1,ih h2⟩
theorem SeqR.front {i:Nat} {f:List Loc} {r:MR U} {post:List (Nat×List Loc×MR U)}: ∀ (pre:List (Nat×List Loc×MR U)) {σ σ':St U},SeqR V K S ops (pre++(i,f,r)::post) σ σ'→(∀x∈pre,dD x.2.1 f=true)→
  SeqR V K S ops ((i,f,r)::(pre++post)) σ σ':=by
 intro pre
 induction pre with
 |nil=>intro σ σ' h _;exact h
 |cons x pre ih=>
  obtain ⟨j,g,q⟩:=x
  intro σ σ' h ha
  obtain ⟨o,σ1,ho,h1,h2⟩:=h
  obtain ⟨o',σ2,ho',h3,h4⟩:=ih h2 (fun x hx=>ha x (by simp [hx]))
  obtain ⟨τ1,τ2,h5,h6,h7⟩:=Rel.swap K h1 h3 (ha (j,g,q) (by simp))
  exact ⟨o',τ1,ho',h5,o,τ2,ho,h6,h4.pre h7⟩
structure Alike (σ0 σ σ':St U):Prop where
 b: ∀id,(σ0.b id).isSome=true→σ'.b id=σ.b id
 o: ∀i,σ'.o i=σ.o i
 u: ∀i,σ'.u i=σ.u i
theorem SeqR.harmless {σ0:St U}: ∀ (l:List (Nat×List Loc×MR U)) {σ σ1:St U},SeqR V K S ops l σ σ1→(∀x∈l,PI.harmless σ0 x.2.1=true)→Alike σ0 σ σ1:=by
 intro l
 induction l with
 |nil=>intro σ σ1 h _;exact ⟨fun id _=>(h.b id).symm,fun i=>(h.o i).symm,fun i=>(h.u i).symm⟩
 |cons x l ih=>
  obtain ⟨j,g,q⟩:=x
  intro σ σ1 h ha
  obtain ⟨o,σa,ho,h1,h2⟩:=h
  obtain ⟨g',hg,l1⟩:=h1.loc K
  simp at hg
  subst hg
  have hg:=ha (j,g,q) (by simp)
  have hst: ∀k,(∀n,k≠ .r n)→(∀id,k= .b id→(σ0.b id).isSome=true)→σa.at_ k=σ.at_ k:=by
   intro k hk hb
   refine l1.stay k fun l hl hw e=> ?_
   have:=List.all_eq_true.1 hg l hl
   cases l with
   |wr n=>exact hk _ e.symm
   |wb id=>
    have h3:=hb id e.symm
    simp only [Option.isNone_iff_eq_none] at this
    rw [this] at h3;cases h3
   |wo n=>exact Bool.noConfusion this
   |wu n=>exact Bool.noConfusion this
   |fu n=>exact Bool.noConfusion this
   |_=>exact Bool.noConfusion hw
  have a:=ih h2 fun x hx=>ha x (by simp [hx])
  refine ⟨fun id hid=>(a.b id hid).trans ?_,fun i=>(a.o i).trans ?_,fun i=>(a.u i).trans ?_⟩
  ·have:=hst (.b id) (by simp) (by intro id' e;injection e with e;subst e;exact hid)
   simpa [St.at_] using this
  ·have:=hst (.o i) (by simp) (by intro id' e;cases e)
   simpa [St.at_] using this
  ·have:=hst (.u i) (by simp) (by intro id' e;cases e)
   simpa [St.at_] using this
theorem Zy {p:Nat→Bool}: ∀ (n s:Nat),(cK s n).all p=true→ ∀i,s≤i→i<s+n→p i=true:=by
 intro n
 induction n with
 |zero=>intro s _ i h1 h2;omega
 |succ n ih=>
  intro s h i h1 h2
  simp only [cK,List.all_cons,Bool.and_eq_true] at h
  by_cases he:i=s
  ·subst he;exact h.1
  ·exact ih (s+1) h.2 i (by omega) (by omega)
structure Raises (ops:Array Oper) (σ0:St U) (L:List (Nat×List Loc×MR U)) (j:Nat) (v:PV U):Prop where
 nodup:(L.map (·.1)).Nodup
 lt: ∀x∈L,x.1<ops.size
 order:L.Pairwise fun x y=>((dE ops.toList []).getD y.1 0).testBit x.1=true∨dD x.2.1 y.2.1=true
 first: ∀pre x post,L=pre++x::post→ ∀o,ops[x.1]? =some o→ ∀e∈o.after.toList,Region.binds .any e=true→e.on∈pre.map (·.1)
 done: ∀x∈L,x.1≠j→x.2.2= .done
 raise: ∀x∈L,x.1=j→x.2.2= .raise v
 harm: ∀x∈L,x.1≠j→((dE ops.toList []).getD j 0).testBit x.1=true∨PI.harmless σ0 x.2.1=true
 after: ∀i,i<ops.size→i∉L.map (·.1)→((dE ops.toList []).getD i 0).testBit j=true
theorem alq (hS:mV X K S c) (hall:ops.toList.all (bq c.nt)=true) (hfor:ik 0 ops.toList=true) {σ0 σe:St U} {L:List (Nat×List Loc×MR U)} {j:Nat} {v:PV U} (hR:Raises ops σ0 L j v) {ds:List Deferred}
  (hl: ∀a' w' g' D' τ,a'.defers=ds→Sim X c a'.tmps w' τ g' D'→Alike σ0 τ σe→ ∀val,Rep X w' (c.N g' D') g' val v→Q (.panic [{v:=val,recovered:=false}]) a' w'):
  ∀ (m:Nat) (listed:Array Bool) (rem:List (Nat×List Loc×MR U)) (a:Act) (w:World) (σ:St U) (g:Gh U) (D:Nat→Option Nat),rem.length=m→listed.size=ops.size→rem=L.filter (fun x=> !listed.getD x.1 true)→
   (∀i,i<ops.size→i∉L.map (·.1)→listed.getD i false=false)→listed.getD j false=false→j∈L.map (·.1)→Cb ops (fun i=>listed.getD i false=true)→a.defers=ds→Sim X c a.tmps w σ g D→SeqR V K S ops rem σ σe→
   wpAny P .any ops Q (m+(ops.size-L.length)) listed a w:=by
 have unl: ∀ {listed:Array Bool} {i:Nat},i<listed.size→listed.getD i true=listed.getD i false:=by
  intro listed i hi;simp [Array.getD_eq_getD_getElem?,hi]
 have hfj: ∀ {listed:Array Bool} {i:Nat},i<ops.size→listed.size=ops.size→i∈Region.ready .any ops listed→listed.getD i true=false∧ ∃o,ops[i]? =some o∧ ∀e∈o.after.toList,Region.binds .any e=true→listed.getD e.on false=true:=by
  intro listed i hi _ hin
  simp only [Region.ready,List.mem_filter,List.mem_range,Bool.and_eq_true] at hin
  refine ⟨by simpa using hin.2.1,ops[i],Array.getElem?_eq_getElem hi,fun e he hb=> ?_⟩
  have h2:=hin.2.2
  rw [Array.getElem?_eq_getElem hi] at h2
  simp only [Option.map_some,Option.getD_some] at h2
  have:=Array.all_eq_true_iff_forall_mem.1 h2 e (Array.mem_toList_iff.1 he)
  simpa [hb] using this
 intro m
 induction m with
 |zero=>
  intro listed rem a w σ g D hlen hsz hrem hge hj hjL hcl hds h hseq
  exfalso
  have hnil:rem=[]:=List.eq_nil_of_length_eq_zero hlen
  obtain ⟨x,hx,hxj⟩:=List.mem_map.1 hjL
  have:x∈rem:=by rw [hrem];exact List.mem_filter.2 ⟨hx,by rw [hxj,unl (by rw [hsz,←hxj];exact hR.lt x hx),hj];rfl⟩
  rw [hnil] at this;cases this
 |succ m ih=>
  intro listed rem a w σ g D hlen hsz hrem hge hj hjL hcl hds h hseq
  rw [show m+1+(ops.size-L.length)=(m+(ops.size-L.length))+1 by omega]
  have hmem: ∀x∈rem,x∈L∧listed.getD x.1 false=false:=by
   intro x hx
   rw [hrem] at hx
   obtain ⟨h1,h2⟩:=List.mem_filter.1 hx
   refine ⟨h1, ?_⟩
   rw [unl (by rw [hsz];exact hR.lt x h1)] at h2
   simpa using h2
  refine ⟨fun hr=> ?_,fun i hi=> ?_⟩
  ·exfalso
   cases hrm:rem with
   |nil=>rw [hrm] at hlen;simp at hlen
   |cons x rest=>
    have hxm:=hmem x (by rw [hrm];simp)
    have hxlt:=hR.lt x hxm.1
    obtain ⟨pre,post,hpp⟩:=List.append_of_mem hxm.1
    have hpre: ∀y∈pre,listed.getD y.1 false=true:=by
     intro y hy
     cases hly:listed.getD y.1 false with
     |true=>rfl
     |false=>
      exfalso
      have hyL:y∈L:=by rw [hpp];simp [hy]
      have hyr:(!listed.getD y.1 true)=true:=by rw [unl (by rw [hsz];exact hR.lt y hyL),hly];rfl
      rw [hpp,List.filter_append] at hrem
      have hne:pre.filter (fun x=> !listed.getD x.1 true)≠[]:=fun e=>by
       have:y∈pre.filter (fun x=> !listed.getD x.1 true):=List.mem_filter.2 ⟨hy,hyr⟩
       rw [e] at this;cases this
      obtain ⟨z,zs,hz⟩:=List.exists_cons_of_ne_nil hne
      rw [hz,hrm] at hrem
      injection hrem with e1 e2
      subst e1
      have hxp:x∈pre:=by
       have:x∈pre.filter (fun x=> !listed.getD x.1 true):=by rw [hz];simp
       exact (List.mem_filter.1 this).1
      have hnd:=hR.nodup
      rw [hpp,List.map_append,List.map_cons] at hnd
      exact (List.nodup_append.1 hnd).2.2 x.1 (List.mem_map_of_mem hxp) x.1 (by simp) rfl
    have hin:x.1∈Region.ready .any ops listed:=by
     simp only [Region.ready,List.mem_filter,List.mem_range,Bool.and_eq_true]
     refine ⟨hxlt,by rw [unl (by rw [hsz];exact hxlt),hxm.2];rfl, ?_⟩
     rw [Array.getElem?_eq_getElem hxlt]
     simp only [Option.map_some,Option.getD_some]
     refine Array.all_eq_true_iff_forall_mem.2 fun e he=> ?_
     cases hb:Region.binds .any e with
     |false=>rfl
     |true=>
      have:=hR.first pre x post hpp _ (Array.getElem?_eq_getElem hxlt) e (Array.mem_toList_iff.2 he) hb
      obtain ⟨y,hy,hye⟩:=List.mem_map.1 this
      simp only [Bool.not_true,Bool.false_or]
      rw [←hye];exact hpre y hy
    rw [hr] at hin;cases hin
  ·have his:i<ops.size:=by simp only [Region.ready,List.mem_filter,List.mem_range] at hi;exact hi.1
   obtain ⟨h1,o,ho,hdir⟩:=hfj his hsz hi
   rw [unl (by omega)] at h1
   have hmask: ∀p,((dE ops.toList []).getD i 0).testBit p=true→listed.getD p false=true:=fun p hp=>Nz hfor hcl (i+1) i (Nat.lt_succ_self i) o ho hdir hp
   have hdo:bq c.nt o=true:=List.all_eq_true.1 hall o (Array.mem_toList_iff.2 (Array.mem_of_getElem? ho))
   by_cases hiL:i∈L.map (·.1)
   ·obtain ⟨x,hxL,hxi⟩:=List.mem_map.1 hiL
    have hxr:x∈rem:=by rw [hrem];exact List.mem_filter.2 ⟨hxL,by rw [hxi,unl (by omega),h1];rfl⟩
    obtain ⟨pre,post,hpp⟩:=List.append_of_mem hxr
    have hord:rem.Pairwise fun x y=>((dE ops.toList []).getD y.1 0).testBit x.1=true∨dD x.2.1 y.2.1=true:=by rw [hrem];exact hR.order.filter _
    have hnd:(rem.map (·.1)).Nodup:=by
     rw [hrem]
     exact hR.nodup.sublist ((List.filter_sublist).map _)
    have hpre: ∀y∈pre,dD y.2.1 x.2.1=true:=by
     intro y hy
     rw [hpp,List.pairwise_append] at hord
     rcases hord.2.2 y hy x (by simp) with hb|hb
     ·exfalso
      rw [hxi] at hb
      have:=hmask y.1 hb
      rw [(hmem y (by rw [hpp];simp [hy])).2] at this;cases this
     ·exact hb
    rw [hpp] at hseq
    obtain ⟨xi,xf,xr⟩:=x
    simp only at hxi
    subst hxi
    obtain ⟨o',σa,ho',h2,h3⟩:=hseq.front pre hpre
    rw [ho] at ho'
    injection ho' with ho'
    subst ho'
    by_cases hij:xi=j
    ·subst hij
     have hrr:=hR.raise _ hxL rfl
     simp only at hrr
     subst hrr
     have hro: ∀y∈pre++post,PI.harmless σ0 y.2.1=true:=by
      intro y hy
      have hyr:y∈rem:=by rw [hpp];simp at hy ⊢;rcases hy with h|h<;>simp [h]
      obtain ⟨hyL,hyl⟩:=hmem y hyr
      have hne:y.1≠xi:=by
       intro e
       rw [hpp,List.map_append,List.map_cons] at hnd
       obtain ⟨_,n2,n3⟩:=List.nodup_append.1 hnd
       rcases List.mem_append.1 hy with hy|hy
       ·exact n3 y.1 (List.mem_map_of_mem hy) y.1 (by simp [e]) rfl
       ·exact (List.nodup_cons.1 n2).1 (e▸List.mem_map_of_mem (f:=(·.1)) hy)
      rcases hR.harm y hyL hne with hb|hb
      ·exfalso
       have:=hmask y.1 hb
       rw [hyl] at this;cases this
      ·exact hb
     unfold wpOp
     rw [ho]
     refine vv hS hdo h h2 ⟨(fun hv=>by cases hv),fun v' hv w' g' D' val hrep hs=> ?_⟩
     injection hv with hv
     subst hv
     exact hl a w' g' D' σa hds hs (SeqR.harmless _ h3 hro) val hrep
    ·have hrr:=hR.done _ hxL hij
     simp only at hrr
     subst hrr
     have hi':xi<listed.size:=by omega
     unfold wpOp
     rw [ho]
     have hset: ∀k,k≠xi→ ∀d,(listed.setIfInBounds xi true).getD k d=listed.getD k d:=by
      intro k hk d
      simp [Array.getD_eq_getD_getElem?,Ne.symm hk]
     refine vv hS hdo h h2 ⟨fun _ a' w' g' D' hdf hs=>ih (listed.setIfInBounds xi true) (pre++post) a' w' σa g' D' (by rw [hpp] at hlen;simp at hlen ⊢;omega) (by simp [hsz]) ?_ (fun k hk hkL=> ?_) (by rw [hset j (Ne.symm hij)];exact hj) hjL (fun k o' hk ho' e he hb=> ?_) (hdf.trans hds) hs h3,(fun v hv=>by cases hv)⟩
     ·have e1:L.filter (fun x=> !(listed.setIfInBounds xi true).getD x.1 true)=rem.filter (fun x=>x.1 !=xi):=by
       rw [hrem,List.filter_filter]
       refine List.filter_congr fun y hy=> ?_
       by_cases hyx:y.1=xi
       ·rw [hyx];simp [Array.getD_eq_getD_getElem?,hi']
       ·rw [hset y.1 hyx];simp [hyx]
      rw [e1,hpp,List.filter_append,List.filter_cons_of_neg (by simp)]
      rw [hpp,List.map_append,List.map_cons] at hnd
      obtain ⟨_,n2,n3⟩:=List.nodup_append.1 hnd
      rw [List.filter_eq_self.2,List.filter_eq_self.2]
      ·intro y hy
       have:y.1≠xi:=fun e=>(List.nodup_cons.1 n2).1 (e▸List.mem_map_of_mem (f:=(·.1)) hy)
       simpa using this
      ·intro y hy
       have:y.1≠xi:=fun e=>n3 y.1 (List.mem_map_of_mem hy) y.1 (by simp [e]) rfl
       simpa using this
     ·have:k≠xi:=fun e=>hkL (e▸hiL)
      rw [hset k this];exact hge k hk hkL
     ·show (listed.setIfInBounds xi true).getD e.on false=true
      have hk2:(listed.setIfInBounds xi true).getD k false=true:=hk
      by_cases hki:k=xi
      ·subst hki
       rw [ho] at ho'
       injection ho' with ho'
       subst ho'
       have:=hdir e he hb
       by_cases hei:k=e.on
       ·rw [←hei];simp [Array.getD_eq_getD_getElem?,hi']
       ·rw [hset _ (Ne.symm hei)];exact this
      ·rw [hset k hki] at hk2
       have:=hcl k o' hk2 ho' e he hb
       by_cases hei:xi=e.on
       ·rw [←hei];simp [Array.getD_eq_getD_getElem?,hi']
       ·rw [hset _ (Ne.symm hei)];exact this
   ·exfalso
    have:=hmask j (hR.after i his hiL)
    rw [hj] at this;cases this
end
end Go.Proofs.YtfkkpkhfjpaafaaGreatDoor.PI
namespace Go.Proofs.YtfkkpkhfjpaafaaGreatDoor.PI
open Go
set_option linter.unusedVariables false
set_option linter.unusedSimpArgs false
section
variable {U:Uni} {V:Env U} {P:Program} {X:Link V P} {K:cj U} {S:Side U} {c:Ctx} {ops:Array Oper} {σ0 σ1:St U}
theorem uO {o:Oper} {y:Tmp×Nat} (h:uN V S σ0 σ1 o=some y): ∃t z,o.op= .alloc t∧o.dst=some y.1∧o.guard=none∧V.zero t=some z∧y.2=S.boxId y.1∧σ0.b y.2=none∧σ1.b y.2=none∧ ∀e∈o.after.toList,Region.binds .any e=false:=by
 unfold uN at h
 split at h
 case h_2=>cases h
 rename_i t d h1 h2 h3
 cases hb:((V.zero t).isSome&&((σ0.b (S.boxId d)).isNone&&((σ1.b (S.boxId d)).isNone&&(o.after.toList.all fun e=> !Region.binds .any e)))) with
 |false=>rw [hb] at h;cases h
 |true=>
 rw [hb] at h
 injection h with h
 subst h
 simp only [Bool.and_eq_true,Option.isNone_iff_eq_none] at hb
 obtain ⟨a,b,c,d'⟩:=hb
 obtain ⟨z,hz⟩:=Option.isSome_iff_exists.1 a
 exact ⟨t,z,h1,h2,h3,hz,rfl,b,c,fun e he=>by have:=List.all_eq_true.1 d' e he;simpa using this⟩
theorem agb {bf:List Nat} {j:Nat}: ∀ (l:List Oper) (i:Nat) (fps:List (List Loc)) (ll:List (Nat×List Loc)),ops.toList.drop i=l→qV V S σ0 σ1 bf j i l fps=some ll→
  (∀x∈ll,i≤x.1∧x.1<ops.size∧ ∃o y,ops[x.1]? =some o∧uN V S σ0 σ1 o=some y∧x.2=jq y)∧(ll.map (·.1)).Pairwise (· < ·)∧(∀x∈ll,∀f∈fps,dD f x.2=true)∧ll.Pairwise (fun x y=>dD x.2 y.2=true)∧
  ∀k,i≤k→k<ops.size→k∉ll.map (·.1)→(bf.getD k 0).testBit j=true:=by
 intro l
 induction l with
 |nil=>
  intro i fps ll hd h
  simp only [qV] at h
  injection h with h
  subst h
  refine ⟨by simp,by simp,by simp,by simp,fun k hk hk2 _=> ?_⟩
  exfalso
  have:=congrArg List.length hd
  simp at this;omega
 |cons o l ih=>
  intro i fps ll hd h
  have hi:ops[i]? =some o:=by
   have:=congrArg (·[0]?) hd
   simpa using this
  have his:i<ops.size:=(Array.getElem?_eq_some_iff.1 hi).1
  have hd':ops.toList.drop (i+1)=l:=by rw [←List.drop_drop,hd];rfl
  simp only [qV] at h
  cases hb:(bf.getD i 0).testBit j with
  |true=>
   rw [hb] at h
   obtain ⟨a,b,c,d,e⟩:=ih (i+1) fps ll hd' h
   refine ⟨fun x hx=>by obtain ⟨p,q⟩:=a x hx;exact ⟨by omega,q⟩,b,c,d,fun k hk hk2 hkn=> ?_⟩
   by_cases hki:k=i
   ·rw [hki];exact hb
   ·exact e k (by omega) hk2 hkn
  |false=>
   rw [hb] at h
   simp only [cond_false] at h
   split at h
   case h_2=>cases h
   rename_i y hy
   cases hap:fps.all (fun f=>dD f (jq y)) with
   |false=>rw [hap] at h;cases h
   |true=>
   rw [hap] at h
   simp only [cond_true] at h
   split at h
   case h_2=>cases h
   rename_i l' hl'
   injection h with h
   subst h
   obtain ⟨a,b,c,d,e⟩:=ih (i+1) (jq y::fps) l' hd' hl'
   refine ⟨fun x hx=> ?_, ?_,fun x hx f hf=> ?_, ?_,fun k hk hk2 hkn=> ?_⟩
   ·rcases List.mem_cons.1 hx with rfl|hx
    ·exact ⟨Nat.le_refl _,his,o,y,hi,hy,rfl⟩
    ·obtain ⟨p,q⟩:=a x hx;exact ⟨by omega,q⟩
   ·simp only [List.map_cons,List.pairwise_cons]
    refine ⟨fun k hk=> ?_,b⟩
    obtain ⟨x,hx,rfl⟩:=List.mem_map.1 hk
    have:=(a x hx).1
    omega
   ·rcases List.mem_cons.1 hx with rfl|hx
    ·exact List.all_eq_true.1 hap f hf
    ·exact c x hx f (by simp [hf])
   ·simp only [List.pairwise_cons]
    exact ⟨fun x hx=>c x hx _ (by simp),d⟩
   ·simp only [List.map_cons,List.mem_cons,not_or] at hkn
    exact e k (by omega) hk2 hkn.2
theorem aga: ∀ (ll:List (Nat×List Loc)) (σ:St U),(∀x∈ll,∃o y,ops[x.1]? =some o∧uN V S σ0 σ1 o=some y∧x.2=jq y∧σ.b y.2=none)→ll.Pairwise (fun x y=>dD x.2 y.2=true)→
  ∃σe,SeqR V K S ops (ll.map fun x=>(x.1,x.2,.done)) σ σe:=by
 intro ll
 induction ll with
 |nil=>intro σ _ _;exact ⟨σ,St.eqv.refl _⟩
 |cons x ll ih=>
  intro σ h hp
  obtain ⟨o,y,ho,hy,hx,hb⟩:=h x (by simp)
  obtain ⟨t,z,h1,h2,h3,h4,h5,_⟩:=uO hy
  simp only [List.pairwise_cons] at hp
  obtain ⟨σe,he⟩:=ih ((σ.setB y.2 (.cells z)).setR y.1 (.ptr y.2 0)) (fun x' hx'=>by
   obtain ⟨o',y',a,b,c,d⟩:=h x' (by simp [hx'])
   refine ⟨o',y',a,b,c, ?_⟩
   have hne:y.2≠y'.2:=by
    intro e
    have:=hp.1 x' hx'
    rw [hx,c] at this
    simp [dD,jq,Loc.meets,e] at this
   simp [hne,d]) hp.2
  refine ⟨σe,o,_,ho, ?_,he⟩
  unfold jv
  rw [h3]
  simp only
  unfold bL
  rw [h1]
  simp only [h2,h4,←h5,M.Rel,hb]
  exact ⟨trivial,trivial,by rw [hx];rfl⟩
theorem LD {y:Tmp×Nat} (h:σ0.b y.2=none):PI.harmless σ0 (jq y)=true:=by
 simp [PI.harmless,jq,h]
theorem aik {fs:List (List Loc)} {f:List Loc} {o:Oper} {σ σa σ' σ'':St U} {v:PV U} (ho:ops[fs.length]? =some o) (hseq:SeqRel V K S ops ((List.range' 0 fs.length).zip fs) σ σa) (hj:(jv V S o (gJ ops.toList)).Rel K σa [] (.raise v) σ' f) (he:σ'.eqv σ'')
  (hf:vR V S ops.toList σ σ'' (fs++[f])=true): ∃L σe,Raises ops σ L fs.length v∧SeqR V K S ops L σ σe∧Alike σ σ'' σe∧ik 0 ops.toList=true∧fs.length∈L.map (·.1)∧L.length≤ops.size:=by
 unfold vR at hf
 simp only [Bool.and_eq_true,List.length_append,List.length_singleton,Nat.add_sub_cancel] at hf
 obtain ⟨hfor,hfree,hharm,hlate⟩:=hf
 obtain ⟨ll,hll⟩:=Option.isSome_iff_exists.1 hlate
 obtain ⟨a,b,cc,d,e⟩:=agb (ops:=ops) _ _ _ ll rfl hll
 have hjs:fs.length<ops.size:=(Array.getElem?_eq_some_iff.1 ho).1
 obtain ⟨σe,hse⟩:=aga (K:=K) (V:=V) (S:=S) (ops:=ops) (σ0:=σ) (σ1:=σ'') ll σ' (fun x hx=>by
  obtain ⟨_,_,o',y,h1,h2,h3⟩:=a x hx
  obtain ⟨_,_,_,_,_,_,_,_,h4,_⟩:=uO h2
  exact ⟨o',y,h1,h2,h3,(he.b _).trans h4⟩) d
 generalize hEx:(List.range' 0 fs.length).zip fs=ex at hseq
 have hex:ex.map (·.1)=List.range' 0 fs.length:=by rw [←hEx];exact List.map_fst_zip (by simp)
 have hexm: ∀x∈ex,x.1<fs.length∧fs[x.1]? =some x.2:=by
  intro x hx
  rw [←hEx] at hx
  obtain ⟨i,hi⟩:=List.mem_iff_getElem?.1 hx
  rw [List.getElem?_zip_eq_some] at hi
  obtain ⟨h1,h2⟩:=hi
  have hil:i<fs.length:=(List.getElem?_eq_some_iff.1 h2).1
  have h3:(List.range' 0 fs.length)[i]? =some i:=by simp [hil]
  rw [h3] at h1
  injection h1 with h1
  rw [←h1];exact ⟨hil,h2⟩
 let L:List (Nat×List Loc×MR U):=(ex.map fun x=>(x.1,x.2,MR.done))++((fs.length,f,MR.raise v)::ll.map fun x=>(x.1,x.2,MR.done))
 have hLm:L.map (·.1)=List.range' 0 (fs.length+1)++ll.map (·.1):=by
  simp only [L,List.map_append,List.map_map,List.map_cons]
  have:(fun x:Nat×List Loc×MR U=>x.1)∘(fun x:Nat×List Loc=>(x.1,x.2,(MR.done:MR U)))=fun x=>x.1:=rfl
  rw [this,hex,List.range'_concat]
  simp
 have hinc:(L.map (·.1)).Pairwise (· < ·):=by
  rw [hLm,List.pairwise_append]
  refine ⟨List.pairwise_lt_range',b,fun x hx y hy=> ?_⟩
  obtain ⟨z,hz,rfl⟩:=List.mem_map.1 hy
  have h1:=(a z hz).1
  have h2:x<fs.length+1:=by
   rw [List.mem_range'] at hx
   obtain ⟨i,hi,rfl⟩:=hx;omega
  omega
 have cases3: ∀x∈L,(∃y∈ex,x=(y.1,y.2,.done))∨x=(fs.length,f,.raise v)∨ ∃y∈ll,x=(y.1,y.2,.done):=by
  intro x hx
  simp only [L,List.mem_append,List.mem_map,List.mem_cons] at hx
  rcases hx with ⟨y,hy,rfl⟩|rfl|⟨y,hy,rfl⟩
  ·exact .inl ⟨y,hy,rfl⟩
  ·exact .inr (.inl rfl)
  ·exact .inr (.inr ⟨y,hy,rfl⟩)
 have hLlt: ∀x∈L,x.1<ops.size:=by
  intro x hx
  rcases cases3 x hx with ⟨y,hy,rfl⟩|rfl|⟨y,hy,rfl⟩
  ·have:=(hexm y hy).1;simp only;omega
  ·exact hjs
  ·exact (a y hy).2.1
 have hfps: ∀x∈ex,x.2∈fs++[f]:=fun x hx=>by
  have:=List.mem_of_getElem? (hexm x hx).2
  simp [this]
 refine ⟨L,σe,⟨hinc.imp Nat.ne_of_lt,hLlt, ?_, ?_, ?_, ?_, ?_, ?_⟩, ?_, ?_,hfor, ?_, ?_⟩
 ·
  simp only [L,List.pairwise_append,List.pairwise_cons]
  have fo: ∀p q g h,p<q→(fs++[f])[p]? =some g→(fs++[f])[q]? =some h→((dE ops.toList []).getD q 0).testBit p=true∨dD g h=true:=fun p q g h hpq hp hq=>
   KJ _ (fs++[f]) 0 [] rfl hfree p q g h hpq (by simpa using hp) (by simpa using hq) (by simp)
  refine ⟨?_,⟨fun y hy=> ?_, ?_⟩,fun x hx y hy=> ?_⟩
  ·have h1:ex.Pairwise fun x y=>x.1<y.1:=by
    have:(ex.map (·.1)).Pairwise (· < ·):=by rw [hex];exact List.pairwise_lt_range'
    exact List.pairwise_map.1 this
   rw [List.pairwise_map]
   refine (List.Pairwise.and_mem.1 h1).imp fun {x y} h=> ?_
   obtain ⟨hx,hy,hlt⟩:=h
   exact fo x.1 y.1 x.2 y.2 hlt (by rw [List.getElem?_append_left (hexm x hx).1];exact (hexm x hx).2) (by rw [List.getElem?_append_left (hexm y hy).1];exact (hexm y hy).2)
  ·obtain ⟨z,hz,rfl⟩:=List.mem_map.1 hy
   exact .inr (cc z hz f (by simp))
  ·rw [List.pairwise_map]
   exact d.imp fun h=> .inr h
  ·obtain ⟨x',hx',rfl⟩:=List.mem_map.1 hx
   rcases List.mem_cons.1 hy with rfl|hy
   ·exact fo x'.1 fs.length x'.2 f (hexm x' hx').1 (by rw [List.getElem?_append_left (hexm x' hx').1];exact (hexm x' hx').2) (by simp)
   ·obtain ⟨z,hz,rfl⟩:=List.mem_map.1 hy
    exact .inr (cc z hz x'.2 (hfps x' hx'))
 ·
  intro pre x post hpp o' ho' ed hed hb
  have hxL:x∈L:=by rw [hpp];simp
  have hk:x.1≤fs.length∨fs.length<x.1:=by omega
  rcases hk with hk|hk
  ·have hlt:=Eu ops.toList 0 x.1 _ hfor (by simpa using ho') ed hed hb
   rw [Nat.zero_add] at hlt
   have hin:ed.on∈L.map (·.1):=by
    rw [hLm]
    refine List.mem_append.2 (.inl ?_)
    rw [List.mem_range']
    exact ⟨ed.on,by omega,by omega⟩
   rw [hpp,List.map_append,List.map_cons] at hin hinc
   rcases List.mem_append.1 hin with h|h
   ·exact h
   ·exfalso
    rw [List.pairwise_append,List.pairwise_cons] at hinc
    rcases List.mem_cons.1 h with h|h
    ·omega
    ·have:=hinc.2.1.1 ed.on h;omega
  ·exfalso
   rcases cases3 x hxL with ⟨y,hy,rfl⟩|rfl|⟨y,hy,rfl⟩
   ·have:=(hexm y hy).1;simp only at hk;omega
   ·simp at hk
   ·obtain ⟨_,_,o2,y2,h1,h2,_⟩:=a y hy
    simp only at ho'
    rw [h1] at ho'
    injection ho' with ho'
    subst ho'
    obtain ⟨_,_,_,_,_,_,_,_,_,h3⟩:=uO h2
    rw [h3 ed hed] at hb;cases hb
 ·intro x hx hne
  rcases cases3 x hx with ⟨y,hy,rfl⟩|rfl|⟨y,hy,rfl⟩
  ·rfl
  ·exact absurd rfl hne
  ·rfl
 ·intro x hx heq
  rcases cases3 x hx with ⟨y,hy,rfl⟩|rfl|⟨y,hy,rfl⟩
  ·have:=(hexm y hy).1;simp only at heq;omega
  ·rfl
  ·have:=(a y hy).1;simp only at heq;omega
 ·intro x hx hne
  rcases cases3 x hx with ⟨y,hy,rfl⟩|rfl|⟨y,hy,rfl⟩
  ·have:=Zy _ _ hharm y.1 (by omega) (by have:=(hexm y hy).1;omega)
   simp only [Bool.or_eq_true] at this
   rcases this with h|h
   ·exact .inl h
   ·refine .inr ?_
    rw [List.getD_eq_getElem?_getD,List.getElem?_append_left (hexm y hy).1,(hexm y hy).2] at h
    exact h
  ·exact absurd rfl hne
  ·obtain ⟨_,_,o2,y2,h1,h2,h3⟩:=a y hy
   obtain ⟨_,_,_,_,_,_,_,h4,_⟩:=uO h2
   refine .inr ?_
   simp only [h3]
   exact LD h4
 ·intro i hi hn
  rw [hLm,List.mem_append,not_or] at hn
  refine e i ?_ hi hn.2
  have: ¬i<fs.length+1:=fun h=>hn.1 (by rw [List.mem_range'];exact ⟨i,h,by omega⟩)
  omega
 ·exact SeqR.append (SeqR.ofSeq hseq) ⟨o,σ',ho,hj,hse⟩
 ·have hh:=SeqR.harmless (σ0:=σ) _ hse (fun x hx=>by
   obtain ⟨y,hy,rfl⟩:=List.mem_map.1 hx
   obtain ⟨_,_,o2,y2,h1,h2,h3⟩:=a y hy
   obtain ⟨_,_,_,_,_,_,_,h4,_⟩:=uO h2
   simp only [h3]
   exact LD h4)
  exact ⟨fun id hid=>(hh.b id hid).trans (he.b id),fun i=>(hh.o i).trans (he.o i),fun i=>(hh.u i).trans (he.u i)⟩
 ·rw [hLm]
  refine List.mem_append.2 (.inl ?_)
  rw [List.mem_range']
  exact ⟨fs.length,by omega,by omega⟩
 ·have h1:(L.map (·.1)).length≤(List.range ops.size).length:=by
   have hnd:(L.map (·.1)).Nodup:=hinc.imp Nat.ne_of_lt
   refine List.Nodup.length_le_of_subset hnd fun i hi=> ?_
   obtain ⟨x,hx,rfl⟩:=List.mem_map.1 hi
   exact List.mem_range.2 (hLlt x hx)
  simpa using h1
theorem aiu {σ τ:St U} (ho:σ.o=τ.o) (hu:σ.u=τ.u) (t:Option (Nat×Bool)) (v:PV U) (K:Kept U):mA σ t v K=mA τ t v K:=by
 unfold mA
 rw [ho,hu]
theorem Z1 {σ τ:St U} (ho:σ.o=τ.o) (hu:σ.u=τ.u): ∀ (ts:List (Option (Nat×Bool))) (vs:List (PV U)) (K:Kept U),iW σ ts vs K=iW τ ts vs K:=by
 intro ts
 induction ts with
 |nil=>intro vs K;cases vs<;>rfl
 |cons t ts ih=>
  intro vs K
  cases vs with
  |nil=>rfl
  |cons v vs=>simp only [iW,aiu ho hu,ih]
theorem ZZ {σ τ:St U} (ho:σ.o=τ.o) (hu:σ.u=τ.u): ∀ (l:List (Nat×List (Option (Nat×Bool)))) (K:Kept U),(∀x∈l,σ.b x.1=τ.b x.1)→fO σ l K=fO τ l K:=by
 intro l
 induction l with
 |nil=>intro K _;rfl
 |cons x l ih=>
  obtain ⟨n,ts⟩:=x
  intro K h
  have h1:=h (n,ts) (by simp)
  simp only at h1
  have h2: ∀K,fO σ l K=fO τ l K:=fun K=>ih K fun x hx=>h x (by simp [hx])
  simp only [fO,h1,Z1 ho hu,h2]
theorem agI: ∀ (l:List Nat) (n:Nat),n∈pC l→n∈l:=by
 intro l
 induction l with
 |nil=>intro n h;exact h
 |cons m l ih=>
  intro n h
  simp only [pC] at h
  cases hb:l.any (Nat.beq m) with
  |true=>rw [hb] at h;simp [ih n h]
  |false=>
   rw [hb] at h
   rcases List.mem_cons.1 h with rfl|h
   ·simp
   ·simp [ih n h]
theorem agz {α:Type}: ∀ (l:List (Nat×α)) (n:Nat),n∈l.map (·.1)→(cq l n).isSome=true:=by
 intro l
 induction l with
 |nil=>intro n h;cases h
 |cons x l ih=>
  obtain ⟨m,v⟩:=x
  intro n h
  rw [iD]
  by_cases hm:m=n
  ·rw [if_pos hm];rfl
  ·rw [if_neg hm]
   refine ih n ?_
   simp only [List.map_cons,List.mem_cons] at h
   exact h.resolve_left (Ne.symm hm)
theorem JA {σ0 σ τ:St U} (h:Alike σ0 σ τ):dS (iN σ0 τ) τ=dS (iN σ0 σ) σ:=by
 have hkeys: ∀id∈pC (σ0.box.map (·.1)),τ.b id=σ.b id:=fun id hid=>h.b id (agz _ _ (agI _ _ hid))
 have hA:iN σ0 τ=iN σ0 σ:=by
  unfold iN
  congr 1
  exact List.map_congr_left fun id hid=>by rw [hkeys id hid]
 rw [hA]
 have hB: ∀K,fO τ (iN σ0 σ).boxes K=fO σ (iN σ0 σ).boxes K:=fun K=>ZZ (funext h.o) (funext h.u) _ K fun x hx=>by
  obtain ⟨id,hid,rfl⟩:=List.mem_map.1 hx
  exact hkeys id hid
 unfold dS
 simp only [iN,o8] at hB ⊢
 rw [hB]
end
end Go.Proofs.YtfkkpkhfjpaafaaGreatDoor.PI
namespace Go.Proofs.YtfkkpkhfjpaafaaGreatDoor.PI
open Go
set_option linter.unusedVariables false
set_option linter.unusedSimpArgs false
section
variable {U:Uni} {V:Env U} {P:Program} {X:Link V P} {K:cj U} {S:Side U} {c:Ctx} {ann:Nat→Option Ann}
theorem Lands.eqv {ds:List Deferred} {e:Ex U} {σ σ':St U} {Q:Exit→Act→World→Prop} (h:Lands X c ds e σ Q) (he:σ'.eqv σ):Lands X c ds e σ' Q:=
 fun a w g D hd hs=>h a w g D hd (hs.eqv he)
def wE (X:Link V P) (c:Ctx):Option Ann→Code→St U→Ex U→St U→Prop
 |none,code,σ,e,σ'=> ∀ (a:Act) (w:World) (g:Gh U) (D:Nat→Option Nat) (Q:Exit→Act→World→Prop),Sim X c a.tmps w σ g D→Lands X c a.defers e σ' Q→code.wp P Q a w
 |some A,code,σ,e,σ'=> ∃n,∀ (a:Act) (w:World) (g:Gh U) (D:Nat→Option Nat) (Q:Exit→Act→World→Prop),Sim X c a.tmps w σ g D→Lands X c a.defers e σ' Q→Code.rounds P code Q n a w
theorem T1 {next:Act→World→Prop} {Q:Exit→Act→World→Prop} {ds:List Deferred} {e:Ex U} {σ':St U} (h:Lands X c ds e σ' Q) (he:e≠ .normal):Lands X c ds e σ' (Exit.then next Q):=by
 intro a w g D hd hs
 have:=h a w g D hd hs
 cases e with
 |normal=>exact absurd rfl he
 |exit id=>exact this
 |ret=>exact this
 |panic v=>exact this
theorem adh {Q:Exit→Act→World→Prop} {ds:List Deferred} {e:Ex U} {σ':St U} {id:Nat} (h:Lands X c ds e σ' Q) (he:e≠ .exit id):Lands X c ds e σ' (Exit.inBlock id Q):=by
 intro a w g D hd hs
 have:=h a w g D hd hs
 cases e with
 |normal=>exact this
 |exit j=>
  have hj:j≠id:=fun h=>he (by rw [h])
  simp only [Exit.inBlock,hj,if_false]
  exact this
 |ret=>exact this
 |panic v=>exact this
theorem agR {Q:Exit→Act→World→Prop} {ds:List Deferred} {e:Ex U} {σ':St U} (h:Lands X c ds e σ' Q):Lands X c ds e σ' (Exit.noGoto Q):=by
 intro a w g D hd hs
 have:=h a w g D hd hs
 cases e with
 |normal=>exact this
 |exit id=>exact this
 |ret=>exact this
 |panic v=>exact this
theorem oX (hm:P.follows .mixedOrders=true) (hS:mV X K S c) (hnt:c.nt=S.nt) {o:Option Ann} {code:Code} {σ:St U} {e:Ex U} {σ':St U} (h:Big K V S ann o code σ e σ'):wE X c o code σ e σ':=by
 induction h with
 |skip σ=>exact fun a w g D Q hs hl=>Go.wp_skip (hl a w g D rfl hs)
 |label l σ=>exact fun a w g D Q hs hl=>wp_label (hl a w g D rfl hs)
 |region id ops draw σ e σ' fps hd h hf=>
  intro a w g D Q hs hl
  rw [←hnt] at hd
  cases draw with
  |false=>
   refine wp_region ?_
   rw [List.range_eq_range']
   have:=Ur (Q:=Q) hS ops.toList 0 a w σ g D fps (by simp) hd hs h hl
   simpa using this
  |true=>
   obtain ⟨rfl,hfor,hfree⟩:=hf rfl
   refine wp_region_any hm ?_
   obtain ⟨hlen,hseq⟩:=aj6 ops.toList 0 σ σ' fps (by simp) h
   have hlen':fps.length=ops.size:=by simpa using hlen
   refine alp hS hd hfor hfree hl ops.size _ ((List.range' 0 ops.toList.length).zip fps) a _ σ g D (by simp [hlen']) ⟨by simp, ?_,fun x hx=> ?_,fun k o hk=> ?_⟩ rfl hs.drew hseq
   ·have h1:((List.range' 0 ops.toList.length).zip fps).map (·.1)=List.range' 0 ops.toList.length:=List.map_fst_zip (by simp [hlen'])
    rw [h1,List.filter_eq_self.2,List.range_eq_range']
    ·simp
    ·intro i hi
     have hi':i<ops.size:=List.mem_range.1 hi
     simp [Array.getD_eq_getD_getElem?,hi']
   ·obtain ⟨i,hi⟩:=List.mem_iff_getElem?.1 hx
    rw [List.getElem?_zip_eq_some] at hi
    obtain ⟨h1,h2⟩:=hi
    have hil:i<ops.size:=by have:=(List.getElem?_eq_some_iff.1 h2).1;omega
    have h3:(List.range' 0 ops.toList.length)[i]? =some i:=by simp [hil]
    rw [h3] at h1
    injection h1 with h1
    rw [←h1];exact h2
   ·exfalso
    have:(Array.replicate ops.size false).getD k false=false:=by
     rw [Array.getD_eq_getD_getElem?,Array.getElem?_replicate]
     split<;>rfl
    dsimp only at hk
    rw [this] at hk;cases hk
 |regionP id ops σ v σ' σ'' τ fps hd h he hv hf hc=>
  intro a w g D Q hs hl
  rw [←hnt] at hd
  obtain ⟨fs,f,o,σ1,hfps,ho,hseq,hj⟩:=aj7 (ops:=ops) ops.toList 0 σ σ' fps v (by simp) h
  subst hfps
  rw [Nat.zero_add] at ho
  obtain ⟨L,σe,hR,hsq,hal,hfor,hjL,hlen⟩:=aik ho hseq hj he hf
  refine wp_region_any hm ?_
  have hjs:fs.length<ops.size:=(Array.getElem?_eq_some_iff.1 ho).1
  have hrep: ∀i d,(Array.replicate ops.size false).getD i d=(if i<ops.size then false else d):=by
   intro i d
   rw [Array.getD_eq_getD_getElem?,Array.getElem?_replicate]
   split<;>rfl
  have hwp:=alq (v:=v) hS hd hfor hR (ds:=a.defers) (Q:=Q) (fun a' w' g' D' τ' hdf hs' hal' val hval=>by
    have hc2:dS (iN σ τ') τ'=some τ:=by rw [←JA hal',JA hal];exact hc
    obtain ⟨g2,D2,hs2⟩:=ym hs' hc2
    refine hl a' w' g2 D2 hdf hs2 val ?_
    cases v with
    |iface t p=>
     cases p with
     |int k n=>cases hval with
      |iface _ u _ hu=>cases hu;exact .iface _ _ _ (.int _ _)
     |_=>cases hv
    |_=>cases hv) L.length (Array.replicate ops.size false) L a _ σ g D rfl (by simp) ?_ (fun i hi _=>by rw [hrep,if_pos hi]) (by rw [hrep,if_pos hjs]) hjL (fun k o' hk=> ?_) rfl hs.drew hsq
  ·rw [show L.length+(ops.size-L.length)=ops.size by omega] at hwp
   exact hwp
  ·rw [List.filter_eq_self.2]
   intro x hx
   rw [hrep,if_pos (hR.lt x hx)];rfl
  ·exfalso
   dsimp only at hk
   rw [hrep] at hk
   split at hk<;>cases hk
 |seqN x y σ σ1 e σ' h1 h2 i1 i2=>
  intro a w g D Q hs hl
  exact wp_seq (i1 a w g D _ hs fun a' w' g' D' hd hs'=>i2 a' w' g' D' Q hs' (by rw [hd];exact hl))
 |seqJ x y A σ σ1 τ e σ' h1 hA hc h2 i1 i2=>
  intro a w g D Q hs hl
  refine wp_seq (i1 a w g D _ hs fun a' w' g' D' hd hs'=> ?_)
  obtain ⟨g2,D2,hs2⟩:=ym hs' hc
  exact i2 a' w' g2 D2 Q hs2 (by rw [hd];exact hl)
 |seqE x y σ e σ' h1 he i1=>exact fun a w g D Q hs hl=>wp_seq (i1 a w g D _ hs (T1 hl he))
 |cond j x y σ t e σ' hj h ih=>
  intro a w g D Q hs hl
  have hR:=hs.regs j
  rw [hj] at hR
  refine wp_cond (t:=t) (kV hR) ?_
  cases t with
  |true=>exact ih a w g D Q hs hl
  |false=>exact ih a w g D Q hs hl
 |blockIn id x σ σ' h ih=>
  intro a w g D Q hs hl
  refine wp_block (ih a w g D _ hs fun a' w' g' D' hd hs'=> ?_)
  simp only [Exit.inBlock,if_true]
  exact hl a' w' g' D' hd hs'
 |blockOut id x σ e σ' h he ih=>exact fun a w g D Q hs hl=>wp_block (ih a w g D _ hs (adh hl he))
 |loop x A σ τ e σ' hA hc h ih=>
  intro a w g D Q hs hl
  obtain ⟨n,hn⟩:=ih
  obtain ⟨g',D',hs'⟩:=ym hs hc
  exact wp_loop_rounds n (hn a w g' D' Q hs' hl)
 |scope x σ e σ' h ih=>exact fun a w g D Q hs hl=>wp_scope_straight (ih a w g D _ hs (agR hl))
 |exit id σ=>exact fun a w g D Q hs hl=>wp_exit (hl a w g D rfl hs)
 |ret σ=>exact fun a w g D Q hs hl=>wp_ret (hl a w g D rfl hs)
 |round x A σ σ1 τ e σ' h hc h' i1 i2=>
  obtain ⟨n,hn⟩:=i2
  refine ⟨n+1,fun a w g D Q hs hl=> ?_⟩
  rw [rounds_succ]
  refine i1 a w g D _ hs fun a' w' g' D' hd hs'=> ?_
  obtain ⟨g2,D2,hs2⟩:=ym hs' hc
  exact hn a' w' g2 D2 Q hs2 (by rw [hd];exact hl)
 |leave x A σ e σ' h he i1=>
  refine ⟨1,fun a w g D Q hs hl=> ?_⟩
  rw [rounds_succ]
  exact i1 a w g D _ hs (T1 hl he)
 |pre o x σ0 σ e σ' he h ih=>
  cases o with
  |none=>exact fun a w g D Q hs hl=>ih a w g D Q (hs.eqv he) hl
  |some A=>obtain ⟨n,hn⟩:=ih;exact ⟨n,fun a w g D Q hs hl=>hn a w g D Q (hs.eqv he) hl⟩
 |post o x σ e σ1 σ' he h ih=>
  cases o with
  |none=>exact fun a w g D Q hs hl=>ih a w g D Q hs (hl.eqv he)
  |some A=>obtain ⟨n,hn⟩:=ih;exact ⟨n,fun a w g D Q hs hl=>hn a w g D Q hs (hl.eqv he)⟩
end
end Go.Proofs.YtfkkpkhfjpaafaaGreatDoor.PI
namespace Go.Proofs.YtfkkpkhfjpaafaaGreatDoor.PI
open Go
set_option linter.unusedVariables false
section
variable {U:Uni} {V:Env U} {P:Program} {X:Link V P} {S:Side U} {c:Ctx}
theorem oi (hI:lf X) (hS:S.rcv=none) (hP:PinOK S c):mV X (ci X) S c:=by
 intro o a w σ g D r τ fp gp next Q hd h hr ht
 obtain ⟨dst,op,ty,pos,after,gd⟩:=o
 cases op with
 |move x=>exact ahm hd h hr ht
 |assign x=>exact ag4 hd h hr ht
 |pick x y z=>exact ahp hd h hr ht
 |alloc t=>exact ag3 hP hd h hr ht
 |box t x=>exact ag6 hP hd h hr ht
 |build t ps=>exact ag7 hd h hr ht
 |buildSlice t n ps=>exact ag8 hd h hr ht
 |load t x=>exact ahg hd h hr ht
 |store t x y=>exact ahr h hr ht
 |nilCheck x=>exact ahn hd h hr ht
 |binOp b t x y u=>exact ag5 hd h hr ht
 |unOp u t x=>exact aht hd h hr ht
 |convert s t x=>exact aha hd h hr ht
 |makeFunc f xs ys=>cases f with
  |func f=>exact ahi hd h hr ht
  |_=>exact hr.elim
 |makeInterface t x=>exact ahj hd h hr ht
 |typeAssert x s t ok=>cases ok with
  |true=>exact ahs hd h hr ht
  |false=>exact hr.elim
 |makeMap t x=>cases x with
  |none=>exact ahk hd h hr ht
  |some x=>exact hr.elim
 |lookup t m x ok=>exact ahh hd h hr ht
 |mapUpdate t m x y=>exact ahl h hr ht
 |slice t x lo hi mx=>exact ahq hd h hr ht
 |fieldAddr s x f=>exact ahd hd h hr ht
 |field s x f=>exact ahc hd h hr ht
 |indexAddr t x i=>exact ahf hd h hr ht
 |index t x i=>exact ahe hd h hr ht
 |extract x i=>exact ahb hd h hr ht
 |panic x=>exact aho h hr ht
 |call cl=>
  cases hc:cl.callee with
  |builtin b=>
   by_cases hb:b= .recover
   ·subst hb
    obtain ⟨callee,args,ats⟩:=cl
    simp only at hc
    subst hc
    simp only [bL,hS] at hr
    exact hr.elim
   ·exact ag9 hc hb hd h hr ht
  |value f=>exact ag_ hI hc hd h hr ht
  |invoke x n=>
   obtain ⟨callee,args,ats⟩:=cl
   simp only at hc
   subst hc
   exact hr.elim
 |_=>exact hr.elim
end
end Go.Proofs.YtfkkpkhfjpaafaaGreatDoor.PI
namespace Go.Proofs.YtfkkpkhfjpaafaaGreatDoor.PI
open Go
set_option linter.unusedVariables false
set_option linter.unusedSimpArgs false
section
variable {U:Uni} {V:Env U} {P:Program} {X:Link V P}
theorem akt: ∀ (args:List (PV U)) (s n:Nat),cq (wk s args) n=if s≤n then (args[n-s]?).map (R9 n) else none:=by
 intro args
 induction args with
 |nil=>intro s n;simp [wk,cq]
 |cons p args ih=>
  intro s n
  simp only [wk,iD,ih]
  by_cases h:s=n
  ·subst h;simp
  ·rw [if_neg h]
   by_cases h2:s≤n
   ·rw [if_pos h2,if_pos (by omega)]
    obtain ⟨k,rfl⟩: ∃k,n=s+(k+1):=⟨n-s-1,by omega⟩
    rw [show s+(k+1)-(s+1)=k by omega,show s+(k+1)-s=k+1 by omega]
    simp
   ·rw [if_neg h2,if_neg (by omega)]
def fi (args:List (PV U)) (j:Nat):Option (Ob U):=match args[j]? with|some (.fresh e l)=>some ⟨0,e,l⟩|_=>none
theorem R8: ∀ (args:List (PV U)) (s i:Nat),cq (gV s args) i=if 2000000+s≤i then fi args (i-2000000-s) else none:=by
 intro args
 induction args with
 |nil=>intro s i;simp [gV,cq,fi]
 |cons p args ih=>
  intro s i
  have tail:cq (gV (s+1) args) i=if 2000000+s≤i∧i≠2000000+s then fi (p::args) (i-2000000-s) else none:=by
   rw [ih]
   by_cases h:2000000+(s+1)≤i
   ·rw [if_pos h,if_pos ⟨by omega,by omega⟩]
    obtain ⟨k,rfl⟩: ∃k,i=2000000+s+(k+1):=⟨i-2000000-s-1,by omega⟩
    rw [show 2000000+s+(k+1)-2000000-(s+1)=k by omega,show 2000000+s+(k+1)-2000000-s=k+1 by omega]
    simp [fi]
   ·rw [if_neg h,if_neg (by omega)]
  have plain:p.notFresh=true→gV s (p::args)=gV (s+1) args:=by
   intro hp;cases p<;>first|rfl|cases hp
  by_cases hp:p.notFresh=true
  ·rw [plain hp,tail]
   by_cases h1:2000000+s≤i
   ·rw [if_pos h1]
    by_cases h2:i=2000000+s
    ·subst h2
     rw [if_neg (by omega)]
     have:2000000+s-2000000-s=0:=by omega
     rw [this]
     unfold fi
     simp only [List.getElem?_cons_zero]
     cases p<;>first|rfl|cases hp
    ·rw [if_pos ⟨h1,h2⟩]
   ·rw [if_neg h1,if_neg (by omega)]
  ·cases p with
   |fresh e l=>
    simp only [gV,iD,tail]
    by_cases h1:2000000+s=i
    ·subst h1
     rw [if_pos rfl,if_pos (Nat.le_refl _)]
     have:2000000+s-2000000-s=0:=by omega
     rw [this];rfl
    ·rw [if_neg h1]
     by_cases h2:2000000+s≤i
     ·rw [if_pos ⟨h2,Ne.symm h1⟩,if_pos h2]
     ·rw [if_neg (by omega),if_neg h2]
   |_=>exact absurd rfl hp
end
end Go.Proofs.YtfkkpkhfjpaafaaGreatDoor.PI
namespace Go.Proofs.YtfkkpkhfjpaafaaGreatDoor.PI
open Go
set_option linter.unusedVariables false
set_option linter.unusedSimpArgs false
section
variable {U:Uni} {V:Env U} {P:Program} {X:Link V P}
theorem alD {boxes:List (Box U)}: ∀ (n s id:Nat) (bs:List (Box U)),n=bs.length→cq ((cK s n).zip bs) id=if s≤id then bs[id-s]? else none:=by
 intro n
 induction n with
 |zero=>intro s id bs h;have:bs=[]:=List.eq_nil_of_length_eq_zero h.symm;subst this;simp [cK,cq]
 |succ n ih=>
  intro s id bs h
  cases bs with
  |nil=>simp at h
  |cons b bs=>
   simp only [cK,List.zip_cons_cons,iD]
   rw [ih (s+1) id bs (by simpa using h)]
   by_cases h1:s=id
   ·subst h1;simp
   ·rw [if_neg h1]
    by_cases h2:s≤id
    ·rw [if_pos h2,if_pos (by omega)]
     obtain ⟨k,rfl⟩: ∃k,id=s+(k+1):=⟨id-s-1,by omega⟩
     rw [show s+(k+1)-(s+1)=k by omega,show s+(k+1)-s=k+1 by omega]
     simp
    ·rw [if_neg h2,if_neg (by omega)]
def e9 (n:Nat) (ν:Nat→Nat) (args:List (PV U)) (vs:Array Value):Gh U:=
 ⟨fun id=>if 1000000≤id∧id-1000000<n then some (ν (id-1000000)) else none,
  fun i=>if 2000000≤i then (fi args (i-2000000)).map (fun ob=>(0,ob.e,vs.getD (i-2000000) undef)) else none⟩
def mC (args:List (PV U)) (δ:Nat→Option Nat):Nat→Option Nat:=fun i=>if 2000000≤i then (fi args (i-2000000)).bind fun _=>δ (i-2000000) else none
def gm (w:World) (N0:aN) (n m:Nat) (ν:Nat→Nat) (δ:Nat→Option Nat) (nt:Nat) (hnt:nt≤1000000) (h:Bnd w N0 n ν δ) (gl:List (Nat×Obj)) (hgl: ∀b o,(b,o)∈gl→w.heap[b]? =some o∧(∀i,i<n→ν i≠b)∧ ∀j,δ j≠some b):Ctx:=
 ⟨w,N0,i9 n m ν δ,nt,fun b o hn=>⟨(h.n0 b o hn).1,fun hm=>by
  rcases List.mem_append.1 hm with hm|hm
  ·obtain ⟨k,hk,e⟩:=List.mem_map.1 hm
   exact (h.n0 b o hn).2.1 k (List.mem_range.1 hk) e
  ·obtain ⟨j,_,hj⟩:=List.mem_filterMap.1 hm
   exact (h.n0 b o hn).2.2 j hj⟩,
  fun id=>if 1000000≤id∧id-1000000<n then some (ν (id-1000000)) else none,fun id k h=>(by
  split at h
  ·rename_i h1;exact ⟨h1.1,Nat.le_trans hnt h1.1⟩
  ·cases h),
  gl,fun b o hb=>⟨(hgl b o hb).1,fun hm=>by
  rcases List.mem_append.1 hm with hm|hm
  ·obtain ⟨k,hk,e⟩:=List.mem_map.1 hm
   exact (hgl b o hb).2.1 k (List.mem_range.1 hk) e
  ·obtain ⟨j,_,hj⟩:=List.mem_filterMap.1 hm
   exact (hgl b o hb).2.2 j hj⟩⟩
structure CtxOf (c:Ctx) (w:World) (N0:aN) (n m:Nat) (ν:Nat→Nat) (δ:Nat→Option Nat):Prop where
 cw:c.w0=w
 cN:c.N0=N0
 bl:c.bl=i9 n m ν δ
 fix: ∀i,i<n→c.fix (df i)=some (ν i)
 other: ∀id k,c.fix id=some k→(∃i,i<n∧id=df i)∨w.heap.size≤k
 bnd:Bnd w N0 n ν δ
theorem lc {w:World} {N0:aN} {n m nt:Nat} {ν:Nat→Nat} {δ:Nat→Option Nat} {hnt:nt≤1000000} {h:Bnd w N0 n ν δ} {gl:List (Nat×Obj)} {hgl: ∀b o,(b,o)∈gl→w.heap[b]? =some o∧(∀i,i<n→ν i≠b)∧ ∀j,δ j≠some b}:CtxOf (gm w N0 n m ν δ nt hnt h gl hgl) w N0 n m ν δ where
 cw:=rfl
 cN:=rfl
 bl:=rfl
 fix i hi:=by
  simp only [gm,df]
  rw [if_pos ⟨by omega,by omega⟩,show 1000000+i-1000000=i by omega]
 other id k hk:=by
  simp only [gm] at hk
  split at hk
  ·rename_i h1;exact .inl ⟨id-1000000,h1.2,by simp [df];omega⟩
  ·cases hk
 bnd:=h
variable {w:World} {vs:Array Value} {N0:aN} {ν:Nat→Nat} {δ:Nat→Option Nat} {args:List (PV U)} {boxes:List (Box U)}
theorem wj {i b:Nat} (h:mC args δ i=some b):2000000≤i∧δ (i-2000000)=some b∧(fi args (i-2000000)).isSome=true:=by
 unfold mC at h
 split at h
 ·rename_i hi
  cases hf:fi args (i-2000000) with
  |none=>rw [hf] at h;cases h
  |some ob=>rw [hf] at h;exact ⟨hi,h,rfl⟩
 ·cases h
theorem aku (hg:Given X w vs N0 ν δ args boxes) (nt:Nat) (hnt:nt≤1000000): ∀b o,((gm w N0 boxes.length args.length ν δ nt hnt hg.bnd X.gblk hg.glob).N (e9 boxes.length ν args vs) (mC args δ)) b o→(NB N0 boxes.length ν δ) b o:=by
 rintro b o (hn|⟨id,hid⟩|⟨i,hi⟩)
 ·exact .inl hn
 ·simp only [e9] at hid
  split at hid
  ·rename_i h1
   injection hid with hid
   exact .inr (.inl ⟨_,h1.2,hid⟩)
  ·cases hid
 ·exact .inr (.inr ⟨_,(wj hi).2.1⟩)
theorem R_ (id:Nat):(gU args boxes).b id=if 1000000≤id then (boxes.map (Box.ren false df))[id-1000000]? else none:=by
 unfold St.b gU
 simp only
 rw [alD (boxes:=boxes) _ _ _ _ (by simp)]
 rfl
theorem BO (hg:Given X w vs N0 ν δ args boxes) {nt:Nat} (hnt:args.length≤nt) (hnt2:nt≤1000000):
  Sim X (gm w N0 boxes.length args.length ν δ nt hnt2 hg.bnd X.gblk hg.glob) (vs++Array.replicate (nt-vs.size) undef) w (gU args boxes) (e9 boxes.length ν args vs) (mC args δ):=by
 have hsub:=aku hg nt hnt2
 have hμ: ∀i b,(gB U boxes.length ν).μ i=some b→(e9 boxes.length ν args vs).μ (df i)=some b:=by
  intro i b hb
  simp only [gB] at hb
  split at hb
  ·rename_i hi
   simp only [e9,df]
   rw [if_pos ⟨by omega,by omega⟩,show 1000000+i-1000000=i by omega]
   exact hb
  ·cases hb
 have hvs: ∀n,n<args.length→(vs++Array.replicate (nt-vs.size) undef).getD n undef=vs.getD n undef:=by
  intro n hn
  have:n<vs.size:=by rw [hg.size];exact hn
  simp [Array.getD_eq_getD_getElem?,Array.getElem?_append,this]
 have ho: ∀i ob,(gU args boxes).o i=some ob→2000000≤i∧fi args (i-2000000)=some ob:=by
  intro i ob h
  unfold St.o gU at h
  simp only [R8] at h
  split at h
  ·rename_i hi;exact ⟨by omega,by simpa using h⟩
  ·cases h
 have hb: ∀id b,(gU args boxes).b id=some b→1000000≤id∧ ∃b0,boxes[id-1000000]? =some b0∧b=b0.ren false df:=by
  intro id b h
  rw [R_] at h
  by_cases hi:1000000≤id
  ·rw [if_pos hi,List.getElem?_map,Option.map_eq_some_iff] at h
   obtain ⟨b0,h1,h2⟩:=h
   exact ⟨by omega,b0,h1,h2.symm⟩
  ·rw [if_neg hi] at h;cases h
 refine {nt:=by simp [gm,hg.size];omega,regs:=fun n=> ?_,boxes:=fun id b h=> ?_,dom:=fun id k hk=> ?_,inj:=fun id id' k h1 h2=> ?_,new:=fun id k hk=> ?_,objs:=fun i ob h=> ?_,nobj:=fun i h=> ?_,dinj:=fun i j b h1 h2=> ?_,dnew:=fun i b h=> ?_,dbox:=fun i id b h1 h2=> ?_,ext:=Ext.refl _ _,gl:=rfl,fix:=fun id k hk=> .inl hk}
 ·unfold St.r gU
  simp only [akt,Nat.zero_le,if_true,Nat.sub_zero]
  cases hp:args[n]? with
  |none=>simp only [Option.map_none];exact .undef _
  |some p=>
   simp only [Option.map_some]
   have hn:=(List.getElem?_eq_some_iff.1 hp).1
   rw [hvs n hn]
   have hr:=hg.args n p hp
   by_cases hf:p.notFresh=true
   ·have:=(hr.rep hf).ren (g':=e9 boxes.length ν args vs) (N':=(gm w N0 boxes.length args.length ν δ nt hnt2 hg.bnd X.gblk hg.glob).N (e9 boxes.length ν args vs) (mC args δ)) false df (fun _ _ _ _=>rfl) (fun b o _ h=>hsub b o h) (.inr fun _=>rfl) fun i _ b hb=>hμ i b hb
    cases p<;>first|exact this|cases hf
   ·cases p with
    |fresh e l=>
     obtain ⟨A,n',cp,hval,_⟩:=(show ObOK X w _ _ e l (vs.getD n undef) .wr (δ n) from hr).val
     have hfa:fi args n=some ⟨0,e,l⟩:=by unfold fi;rw [hp]
     refine .own (2000000+n) 0 _ 0 e (vs.getD n undef) ?_ (Nat.le_refl _) (fun _=>rfl) ⟨A,n',cp,hval⟩
     simp only [e9]
     rw [if_pos (by omega),show 2000000+n-2000000=n by omega,hfa];rfl
    |_=>exact absurd rfl hf
 ·obtain ⟨h1,b0,h2,rfl⟩:=hb id b h
  have hlt:=(List.getElem?_eq_some_iff.1 h2).1
  have hμid:(e9 boxes.length ν args vs).μ id=some (ν (id-1000000)):=if_pos ⟨h1,hlt⟩
  refine ⟨ν (id-1000000),hμid, ?_⟩
  exact (hg.boxes _ b0 h2).ren false df rfl (fun _ _ _ _=>rfl) (fun b o _ h=>hsub b o h) (.inr fun _=>rfl) fun i _ b hb=>hμ i b hb
 ·simp only [e9] at hk
  split at hk
  ·rename_i h1
   obtain ⟨hx1,hx2⟩:=h1
   obtain ⟨b0,hb0⟩: ∃b0,boxes[id-1000000]? =some b0:=⟨_,List.getElem?_eq_getElem hx2⟩
   exact ⟨b0.ren false df,by rw [R_,if_pos hx1,List.getElem?_map,hb0];rfl⟩
  ·cases hk
 ·simp only [e9] at h1 h2
  split at h1
  ·rename_i q1
   split at h2
   ·rename_i q2
    injection h1 with h1
    injection h2 with h2
    have:=hg.bnd.inj _ _ q1.2 q2.2 (h1.trans h2.symm)
    omega
   ·cases h2
  ·cases h1
 ·simp only [e9] at hk
  split at hk
  ·rename_i h1
   injection hk with hk
   subst hk
   exact ⟨hg.bnd.lt _ h1.2,.inl (List.mem_append.2 (.inl (List.mem_map.2 ⟨_,List.mem_range.2 h1.2,rfl⟩)))⟩
  ·cases hk
 ·obtain ⟨h1,h2⟩:=ho i ob h
  have hp: ∃e l,args[i-2000000]? =some (.fresh e l)∧ob=⟨0,e,l⟩:=by
   unfold fi at h2
   split at h2
   ·rename_i e l hq
    injection h2 with h2
    exact ⟨e,l,hq,h2.symm⟩
   ·cases h2
  obtain ⟨e,l,hp,rfl⟩:=hp
  have hO:ObOK X w (NB N0 boxes.length ν δ) (gB U boxes.length ν) e l (vs.getD (i-2000000) undef) .wr (δ (i-2000000)):=hg.args _ _ hp
  refine ⟨vs.getD (i-2000000) undef,by simp only [e9];rw [if_pos h1,h2];rfl, ?_⟩
  have hu:(gU args boxes).u i= .wr:=by
   unfold St.u gU
   simp only
   have hlook: ∀ (l:List (Nat×Ob U)) (n:Nat),cq (l.map fun x=>(x.1,Use.wr)) n=(cq l n).map fun _=>Use.wr:=by
    intro l n
    induction l with
    |nil=>rfl
    |cons x l ih=>
     obtain ⟨m,y⟩:=x
     simp only [List.map_cons,iD,ih]
     split<;>rfl
   rw [hlook]
   have h':cq (gV 0 args) i=some ⟨0,e,l⟩:=h
   rw [h'];rfl
  have hD:mC args δ i=δ (i-2000000):=by simp only [mC];rw [if_pos h1,h2];rfl
  rw [hu,hD]
  exact hO.turn (fun _ _=>rfl) (fun _ _ _ _=>rfl) (fun b o _ h=>hsub b o h)
 ·have hf:2000000≤i→fi args (i-2000000)=none:=by
   intro hi
   have h':cq (gV 0 args) i=none:=h
   rw [R8,if_pos (by omega)] at h'
   simpa using h'
  constructor
  ·simp only [e9]
   split
   ·rename_i hi;rw [hf hi];rfl
   ·rfl
  ·simp only [mC]
   split
   ·rename_i hi;rw [hf hi];rfl
   ·rfl
 ·obtain ⟨a1,a2,_⟩:=wj h1
  obtain ⟨b1,b2,_⟩:=wj h2
  have:=hg.bnd.dinj _ _ _ a2 b2
  omega
 ·obtain ⟨a1,a2,_⟩:=wj h
  exact ⟨hg.bnd.dlt _ _ a2,.inl (List.mem_append.2 (.inr (List.mem_filterMap.2 ⟨_,List.mem_range.2 (hg.dom _ _ a2),a2⟩)))⟩
 ·obtain ⟨a1,a2,_⟩:=wj h1
  simp only [e9] at h2
  split at h2
  ·rename_i q
   injection h2 with h2
   exact hg.bnd.dν _ _ a2 _ q.2 h2
  ·cases h2
end
end Go.Proofs.YtfkkpkhfjpaafaaGreatDoor.PI
namespace Go.Proofs.YtfkkpkhfjpaafaaGreatDoor.PI
open Go
set_option linter.unusedVariables false
set_option linter.unusedSimpArgs false
section
variable {U:Uni} {V:Env U} {P:Program} {X:Link V P} {K:cj U} {c:Ctx} {tm:Array Value} {w:World} {σ:St U} {g:Gh U} {D:Nat→Option Nat}
variable {r:MR U} {τ:St U} {gp:List Loc}
def mz (tmps:Array Value):ResultVar→Sem Value
 | .tmp t=>pure (tmps.getD t undef)
 | .cell a t=>do loadVar t (←asAddr (tmps.getD a undef))
theorem ais (fn:Func) (tmps:Array Value):results fn tmps=(do
  let vs←fn.results.mapM (mz tmps)
  pure (if h:vs.size=1 then vs[0] else .tuple vs)):=by
 unfold results mz
 rfl
theorem air (h:Sim X c tm w σ g D): ∀ (res:List ResultVar) {k:List (PV U)→M U} {fp:List Loc},(ry V res k).Rel K σ fp r τ gp→
  ∃ps us fp',(k ps).Rel K σ fp' r τ gp∧us.length=ps.length∧(∀ (j:Nat) p,ps[j]? =some p→Rep X w (c.N g D) g (us.getD j undef) p)∧(res.mapM (mz tm)).run P w= .ok us w:=by
 intro res
 induction res with
 |nil=>intro k fp hr;exact ⟨[],[],fp,hr,rfl,by simp,by simp⟩
 |cons x res ih=>
  intro k fp hr
  have step: ∀ {p:PV U} {v:Value} {fp1:List Loc},(ry V res fun vs=>k (p::vs)).Rel K σ fp1 r τ gp→Rep X w (c.N g D) g v p→(mz tm x).run P w= .ok v w→
    ∃ps us fp',(k ps).Rel K σ fp' r τ gp∧us.length=ps.length∧(∀ (j:Nat) p,ps[j]? =some p→Rep X w (c.N g D) g (us.getD j undef) p)∧((x::res).mapM (mz tm)).run P w= .ok us w:=by
   intro p v fp1 hr1 hp hv
   obtain ⟨ps,us,fp',h1,h2,h3,h4⟩:=ih hr1
   refine ⟨p::ps,v::us,fp',h1,by simp [h2],fun j q hq=> ?_,by simp [List.mapM_cons,Sem.run_bind,hv,h4]⟩
   cases j with
   |zero=>simp at hq;subst hq;exact hp
   |succ j=>exact h3 j q (by simpa using hq)
  cases x with
  |tmp t=>exact step hr (h.regs t) (by simp [mz])
  |cell a t=>
   simp only [ry,M.Rel] at hr
   obtain ⟨x,fp',v,h1,h2,h3⟩:=LM (a:=⟨tm,[]⟩) h (h.regs a) hr
   refine step h1 h3 ?_
   have h2':=h2
   unfold Instr.loadAt at h2'
   simp only [mz]
   cases hu:tm.getD a undef with
   |pointer q=>
    rw [hu] at h2'
    cases q with
    |none=>simp [Instr.sureAddr] at h2'
    |some q=>simpa [Instr.sureAddr,asAddr] using h2'
   |_=>rw [hu] at h2';simp [Instr.sureAddr] at h2'
theorem EB: ∀ (l:List Nat) {k:List (Nat×Box U)→M U} {fp:List Loc},(iq l k).Rel K σ fp r τ gp→ ∃bs fp',(k bs).Rel K σ fp' r τ gp∧bs.map (·.1)=l∧ ∀x∈bs,σ.b x.1=some x.2:=by
 intro l
 induction l with
 |nil=>intro k fp hr;exact ⟨[],fp,hr,rfl,by simp⟩
 |cons id l ih=>
  intro k fp hr
  simp only [iq,M.Rel] at hr
  split at hr
  ·rename_i b hb
   obtain ⟨bs,fp',h1,h2,h3⟩:=ih hr
   exact ⟨(id,b)::bs,fp',h1,by simp [h2],fun x hx=>by
    rcases List.mem_cons.1 hx with rfl|hx
    ·exact hb
    ·exact h3 x hx⟩
  ·exact hr.elim
theorem ac8: ∀ (n:Nat) (todo:List Nat) (acc:List (Nat×Box U)) {k:List (Nat×Box U)→M U} {fp:List Loc},(∀x∈acc,σ.b x.1=some x.2)→(lR n todo acc k).Rel K σ fp r τ gp→
  ∃bs fp',(k (acc++bs)).Rel K σ fp' r τ gp∧ ∀x∈acc++bs,σ.b x.1=some x.2:=by
 intro n
 induction n with
 |zero=>intro todo acc k fp _ hr;exact hr.elim
 |succ n ih=>
  intro todo acc k fp hacc hr
  cases todo with
  |nil=>exact ⟨[],fp,by rw [List.append_nil];exact hr,by simpa using hacc⟩
  |cons id todo=>
   simp only [lR] at hr
   split at hr
   ·exact ih todo acc hacc hr
   ·simp only [M.Rel] at hr
    split at hr
    ·rename_i b hb
     obtain ⟨bs,fp',h1,h2⟩:=ih _ _ (fun x hx=>by
      rcases List.mem_append.1 hx with hx|hx
      ·exact hacc x hx
      ·simp at hx;subst hx;exact hb) hr
     exact ⟨(id,b)::bs,fp',by simpa using h1,by simpa using h2⟩
    ·exact hr.elim
theorem RepG.lessN {N N':aN} {v:Value} {Do:Option Nat} {p:PV U} (h:RepG X w N g v Do p) (hN: ∀b o,N' b o→N b o):RepG X w N' g v Do p:=by
 by_cases hp:p.notFresh=true
 ·have:=(h.rep hp).mono X (w':=w) (N':=N') (g':=g) (fun _ _ _ _=>rfl) (fun b o _ hn=>hN b o hn) (Gh.le.refl g)
  cases p<;>first|exact this|cases hp
 ·cases p with
  |fresh e l=>exact ObOK.mono h (fun _ _=>rfl) (fun _ _ _ _=>rfl) (fun b o _ hn=>hN b o hn) (Gh.le.refl g)
  |_=>exact absurd rfl hp
theorem Jr {w0:World} {N0:aN} {n m:Nat} {ν:Nat→Nat} {δ:Nat→Option Nat} (hc:CtxOf c w0 N0 n m ν δ) (hdom: ∀j b,δ j=some b→j<m)
  (h:Sim X c tm w σ g D) {bs:List (Nat×Box U)} {qs:List (PV U)} {vs:Array Value} {ν':Nat→Nat} {δ':Nat→Option Nat} {keep:Bool} {N1:aN}
  (hkeys: ∃more,bs.map (·.1)=cK (df 0) n++more) (hnd:(bs.map (·.1)).Nodup) (hν: ∀ (k:Nat) id,(bs.map (·.1))[k]? =some id→g.μ id=some (ν' k))
  (hδ: ∀j b,δ' j=some b→ ∃i,D i=some b)
  (hg:Given X w vs N1 ν' δ' qs (bs.map fun b=>b.2.ren keep (bt (bs.map (·.1)))))
  (hN1:NB N1 bs.length ν' δ'=c.N g D):
  Back X w0 w N0 ν δ n m ν' δ' (bs.map fun b=>b.2.ren keep (bt (bs.map (·.1))))∧ ∀b o,(NB N0 bs.length ν' δ') b o→(NB N1 bs.length ν' δ') b o:=by
 obtain ⟨more,hmore⟩:=hkeys
 obtain ⟨c0,cN,cbl,cfix,cother,hb0⟩:=hc
 have hlen:bs.length=n+more.length:=by have:=congrArg List.length hmore;simpa [AB] using this
 have hext: ∀i,i<n→(bs.map (·.1))[i]? =some (df i):=by
  intro i hi
  rw [hmore,List.getElem?_append_left (by rw [AB];exact hi),NO _ _ _ hi]
  simp [df]
 have hold: ∀i,i<n→ν' i=ν i:=by
  intro i hi
  have h1:=hν i _ (hext i hi)
  rcases h.fix _ _ h1 with h2|⟨h2,_⟩
  ·rw [cfix i hi] at h2;injection h2 with h2;exact h2.symm
  ·rw [cfix i hi] at h2;cases h2
 have hμν: ∀i,i<n→g.μ (df i)=some (ν i):=fun i hi=>by rw [←hold i hi];exact hν i _ (hext i hi)
 have hget: ∀k,k<bs.length→ ∃id,(bs.map (·.1))[k]? =some id∧g.μ id=some (ν' k):=fun k hk=>⟨_,List.getElem?_eq_getElem (by simpa using hk),hν k _ (List.getElem?_eq_getElem (by simpa using hk))⟩
 have hsub: ∀b o,(NB N0 bs.length ν' δ') b o→(NB N1 bs.length ν' δ') b o:=by
  intro b o hn
  rw [hN1]
  rcases hn with hn|⟨k,hk,rfl⟩|⟨j,hj⟩
  ·exact .inl (by rw [cN];exact hn)
  ·obtain ⟨id,_,hid⟩:=hget k hk
   exact .inr (.inl ⟨id,hid⟩)
  ·obtain ⟨i,hi⟩:=hδ j b hj
   exact .inr (.inr ⟨i,hi⟩)
 have hnew: ∀i,n≤i→i<bs.length→w0.heap.size≤ν' i:=by
  intro i hi hlt
  obtain ⟨id,h1,h2⟩:=hget i hlt
  rcases h.fix _ _ h2 with h3|⟨_,h3⟩
  ·rcases cother _ _ h3 with ⟨j,hj,e⟩|h4
   ·exfalso
    subst e
    have h7:=hext j hj
    have:=(List.getElem?_inj (by simpa using hlt) hnd).1 (h1.trans h7.symm)
    omega
   ·exact h4
  ·rw [c0] at h3;exact h3
 have hdnew: ∀j b,δ' j=some b→w0.heap.size≤b∨ ∃i,δ i=some b:=by
  intro j b hj
  obtain ⟨i,hi⟩:=hδ j b hj
  rcases (h.dnew i b hi).2 with h1|h1
  ·rw [cbl] at h1
   rcases List.mem_append.1 h1 with h1|h1
   ·obtain ⟨k,hk,e⟩:=List.mem_map.1 h1
    rw [List.mem_range] at hk
    subst e
    exact absurd (hμν k hk) (h.dbox i _ _ hi)
   ·obtain ⟨k,_,hk⟩:=List.mem_filterMap.1 h1
    exact .inr ⟨k,hk⟩
  ·rw [c0] at h1;exact .inl h1
 have hl:(bs.map fun b=>b.2.ren keep (bt (bs.map (·.1)))).length=bs.length:=by simp
 have hgb:=hg.bnd
 rw [hl] at hgb
 have hex:Ext (i9 n m ν δ) w0 w:=by have:=h.ext;rwa [c0,cbl] at this
 refine ⟨⟨hex,by rw [hl];omega,hold,by rw [hl];exact hnew,hdnew, ?_,fun k b hb=> ?_⟩,hsub⟩
 ·rw [hl]
  refine ⟨hgb.inj,hgb.lt,hgb.dlt,hgb.dinj,hgb.dν,fun b o hn=>⟨Nat.lt_of_lt_of_le (hb0.n0 b o hn).1 hex.size,fun i hi e=> ?_,fun j hj=> ?_⟩⟩
  ·by_cases hin:i<n
   ·exact (hb0.n0 b o hn).2.1 i hin (by rw [←hold i hin];exact e)
   ·have:=hnew i (by omega) hi
    have:=(hb0.n0 b o hn).1
    omega
  ·rcases hdnew j b hj with h1|⟨i,h1⟩
   ·have:=(hb0.n0 b o hn).1;omega
   ·exact (hb0.n0 b o hn).2.2 i h1
 ·have:=hg.boxes k b hb
  rw [hl] at this ⊢
  exact this.mono rfl (fun _ _ _ _=>rfl) (fun b o _ hn=>hsub b o hn) (Gh.le.refl _)
end
end Go.Proofs.YtfkkpkhfjpaafaaGreatDoor.PI
namespace Go.Proofs.YtfkkpkhfjpaafaaGreatDoor.PI
open Go
set_option linter.unusedVariables false
set_option linter.unusedSimpArgs false
section
variable {U:Uni} {V:Env U} {P:Program} {X:Link V P}
theorem RepG.ofAny {w:World} {N:aN} {g:Gh U} {v:Value} {Do:Option Nat} {p:PV U} (h:Rep X w N g v p):RepG X w N g v Do p:=by
 cases p<;>first|exact h|cases h
theorem RepR.ofG {w:World} {N:aN} {g:Gh U} {v:Value} {δ:Nat→Option Nat} {p:PV U} (h:RepG X w N g v (δ 0) p):RepR X w N g v δ p:=by
 cases p with
 |tuple ps=>
  cases (show Rep X w N g v (.tuple ps) from h) with
  |tuple vs _ hl hh=>exact ⟨vs,rfl,hl,fun j p hp=> .ofAny (hh j p hp)⟩
 |_=>exact h
theorem ait {fn:Func} {tmps:Array Value} {us:List Value} {w:World} (h:(fn.results.toList.mapM (mz tmps)).run P w= .ok us w):
  (results fn tmps).run P w= .ok (if h:us.toArray.size=1 then us.toArray[0] else .tuple us.toArray) w:=by
 rw [ais,Array.mapM_eq_mapM_toList]
 simp [Sem.run_bind,h]
variable {w0:World} {N0:aN} {n m:Nat} {ν:Nat→Nat} {δ:Nat→Option Nat} {K:cj U} {c:Ctx}
theorem rz {fn:Func} {tm:Array Value} {w:World} {σ:St U} {g:Gh U} {D:Nat→Option Nat} (hc:CtxOf c w0 N0 n m ν δ) (hdom: ∀j b,δ j=some b→j<m) (h:Sim X c tm w σ g D)
  {keep:Bool} {hand:List Bool} {out:Out U} {τ:St U} {fp gp:List Loc} (hr:(jC V keep hand fn.results.toList n).Rel K σ fp (.out out) τ gp):
  ∃v,(results fn tm).run P w= .ok v w∧Ret X w0 N0 ν δ n m out (.returned v) w:=by
 unfold jC at hr
 obtain ⟨ps,us,fp1,hr1,hl1,hp1,hrun⟩:=air h _ hr
 obtain ⟨q1,σ1,D1,fp2,hr2,hF1,hl2,hq1⟩:=KL hand ps h (fun j=>us.getD j undef) hp1 hr1
 obtain ⟨bs0,fp3,hr3,hk0,hb0'⟩:=EB _ hr2
 obtain ⟨bs1,fp4,hr4,hb1⟩:=ac8 100 _ bs0 hb0' hr3
 obtain ⟨bs2,σ2,D2,fp5,hr5,hF2,hkeys,hb2⟩:=Ew _ hF1.sim (fun x hx=>hF1.sim.boxes x.1 x.2 (hb1 x hx)) hr4
 have h2:=hF2.sim
 obtain ⟨qs,σ3,fp6,G,δ',hr6,hl6,hSp,_,hδ,hδi,hqs⟩:=KR h2 hand q1 (fun j=>us.getD j undef) (.refl σ2) (fun j p hp=>hF2.rep (hq1 j p hp)) hr5
 cases hh:kj qs bs2 with
 |false=>rw [hh] at hr6;exact hr6.elim
 |true=>
 rw [hh] at hr6
 obtain ⟨e1,_,_⟩:=hr6
 injection e1 with e1
 subst e1
 obtain ⟨ν',hν⟩:=NN hb2
 have hgd: ∀j,us.toArray.getD j undef=us.getD j undef:=fun j=>pT j (by simp)
 obtain ⟨hNB,hg⟩:=EE h2 keep (vs:=us.toArray) (by simp;omega) hb2 hh (fun j b hj=>by rw [hl6];exact hδ j b hj) hδi (fun j q hq=>by rw [hgd];exact hqs j q hq) hν
 have hnd:=(Ac hh).2.2.1
 obtain ⟨hback,hsub⟩:=Jr hc hdom h2 ⟨bs1.map (·.1),by rw [hkeys,List.map_append,hk0]⟩ hnd hν (fun j b hj=>by obtain ⟨_,i,_,hi⟩:=hδ j b hj;exact ⟨i,hi⟩) hg hNB
 suffices hR:RepR X w (NB N0 bs2.length ν' δ') (gB U bs2.length ν') (if h:us.toArray.size=1 then us.toArray[0] else .tuple us.toArray) δ' (mq (PV.renL keep (bt (bs2.map (·.1))) qs)) by
  have hrr:=ait hrun
  generalize (if h:us.toArray.size=1 then us.toArray[0] else .tuple us.toArray)=v at hR hrr
  have hbl:(bs2.map fun b=>b.2.ren keep (bt (bs2.map (·.1)))).length=bs2.length:=by simp
  have hret:Ret X w0 N0 ν δ n m (.ret (mq (PV.renL keep (bt (bs2.map (·.1))) qs)) (bs2.map fun b=>b.2.ren keep (bt (bs2.map (·.1))))) (.returned v) w:=by
   simp only [Ret]
   refine ⟨ν',δ',hback, ?_⟩
   rw [hbl];exact hR
  exact ⟨v,hrr,hret⟩
 have hbl:(bs2.map fun b=>b.2.ren keep (bt (bs2.map (·.1)))).length=bs2.length:=by simp
 have hargs: ∀ (j:Nat) p,(PV.renL keep (bt (bs2.map (·.1))) qs)[j]? =some p→RepG X w (NB N0 bs2.length ν' δ') (gB U bs2.length ν') (us.toArray.getD j undef) (δ' j) p:=fun j p hp=>by
  have:=hg.args j p hp
  rw [hbl] at this
  exact this.lessN hsub
 have hlr:(PV.renL keep (bt (bs2.map (·.1))) qs).length=us.length:=by rw [iL];simp;omega
 generalize PV.renL keep (bt (bs2.map (·.1))) qs=rs at hargs hlr
 by_cases h1:us.toArray.size=1
 ·rw [dif_pos h1]
  have hu1:us.length=1:=by simpa using h1
  obtain ⟨p,rfl⟩: ∃p,rs=[p]:=by
   match rs,hlr with
   |[p],_=>exact ⟨p,rfl⟩
   |[],h=>simp at h;omega
   |_::_::_,h=>simp at h;omega
  have:=hargs 0 p rfl
  have hu:us.toArray.getD 0 undef=us.toArray[0]:=by simp [Array.getD,h1]
  rw [hu] at this
  exact .ofG this
 ·rw [dif_neg h1]
  have hone:mq rs= .tuple rs:=by
   match rs,hlr with
   |[],_=>rfl
   |[p],h=>simp at h h1;omega
   |_::_::_,_=>rfl
  rw [hone]
  exact ⟨us.toArray,rfl,by simpa using hlr.symm,hargs⟩
theorem F0 {tm:Array Value} {w:World} {σ:St U} {g:Gh U} {D:Nat→Option Nat} (hc:CtxOf c w0 N0 n m ν δ) (hdom: ∀j b,δ j=some b→j<m) (h:Sim X c tm w σ g D)
  {v:PV U} {val:Value} (hv:Rep X w (c.N g D) g val v) {out:Out U} {τ:St U} {fp gp:List Loc} (hr:(FZ v n).Rel K σ fp (.out out) τ gp):
  Ret X w0 N0 ν δ n m out (.panicked [{v:=val,recovered:=false}]) w:=by
 unfold FZ at hr
 obtain ⟨bs0,fp3,hr3,hk0,hb0'⟩:=EB _ hr
 obtain ⟨bs2,σ2,D2,fp5,hr5,hF2,hkeys,hb2⟩:=Ew _ h (fun x hx=>h.boxes x.1 x.2 (hb0' x hx)) hr3
 obtain ⟨q,σ3,D3,fp6,hr6,hF3,hq,_⟩:=nu v hF2.sim (hF2.rep hv) hr5
 cases hh:kj [q] bs2 with
 |false=>simp only [hh] at hr6;exact hr6.elim
 |true=>
 simp only [hh] at hr6
 obtain ⟨e1,_,_⟩:=hr6
 injection e1 with e1
 subst e1
 have hb3: ∀x∈bs2,mG X w (c.N g D3) g x:=fun x hx=>by
  obtain ⟨k,hk,hbx⟩:=hb2 x hx
  exact ⟨k,hk,hbx.mono rfl (fun _ _ _ _=>rfl) (fun b o _ hn=>by
   rcases hn with hn|hn|⟨i,hi⟩
   ·exact .inl hn
   ·exact .inr (.inl hn)
   ·exact .inr (.inr ⟨i,hF3.D i b hi⟩)) (Gh.le.refl g)⟩
 have hkk:bs2.map (·.1)=cK (df 0) n:=hkeys.trans hk0
 have hlen:bs2.length=n:=by have:=congrArg List.length hkk;simpa [AB] using this
 have hν: ∀ (k:Nat) id,(bs2.map (·.1))[k]? =some id→g.μ id=some (ν k):=by
  intro k id hid
  obtain ⟨x,hx,rfl⟩:=List.mem_map.1 (List.mem_of_getElem? hid)
  obtain ⟨kb,hk,_⟩:=hb3 x hx
  have hkn:k<n:=by have:=(List.getElem?_eq_some_iff.1 hid).1;simp at this;omega
  rw [hkk,NO _ _ _ hkn] at hid
  injection hid with hid
  have hfix:c.fix x.1=some (ν k):=by
   rw [←hid,←hc.fix k hkn]
   simp [df]
  rcases h.fix _ _ hk with h2|⟨h2,_⟩
  ·rw [hfix] at h2;rw [hk,←h2]
  ·rw [hfix] at h2;cases h2
 obtain ⟨hNB,hg⟩:=EE (G:=[]) (δ:=fun _=>none) hF3.sim false (vs:= #[val]) (by simp) hb3 hh (by simp) (by simp) (fun j q' hq'=>by
  cases j with
  |zero=>simp at hq';subst hq';exact .of hq
  |succ j=>simp at hq') hν
 obtain ⟨hback,hsub⟩:=Jr hc hdom hF3.sim ⟨[],by rw [hkk];simp⟩ (Ac hh).2.2.1 hν (by simp) hg hNB
 refine ⟨by simp [hlen],val,rfl,hback, ?_⟩
 have hbl:(bs2.map fun b=>b.2.ren false (bt (bs2.map (·.1)))).length=bs2.length:=by simp
 have:=hg.args 0 _ rfl
 rw [hbl] at this
 have:=this.lessN hsub
 rw [hlen] at this
 have hf:(q.ren false (bt (bs2.map (·.1)))).notFresh=true:=by
  rw [Bk]
  cases q<;>first|rfl|cases hq
 exact this.rep hf
theorem QJ (hm:P.follows .mixedOrders=true) (hI:lf X) {S:Side U} (hS:S.rcv=none) (hpin:S.pin=fun _=>false) {R:Type} {C:Oracle U R} (hC:C.Tells (ci X)) {f:FuncId} {fn:Func} (hf:P.funcs[f]? =some fn)
  (hname:(fn.name== "runtime.NumGoroutine")=false) (hbody:fn.body.isNone=false) (hnt:fn.ntmps=S.nt) (hlow:S.nt≤1000000) {args:List (PV U)} {boxes:List (Box U)} (hargs:args.length≤S.nt)
  {ann:Nat→Option Ann} {fuel:Nat} {keep:Bool} {hand:List Bool} {κ:Out U→Option R} {x:R} (h:rC V S C ann fuel keep hand fn args boxes κ=some x): ∃out,κ out=some x∧ci X f args boxes out:=by
 obtain ⟨code,hcode⟩: ∃code,fn.body=some code:=by
  cases hb:fn.body with
  |none=>rw [hb] at hbody;cases hbody
  |some code=>exact ⟨code,rfl⟩
 unfold rC gw at h
 rw [hcode] at h
 obtain ⟨e,τ,hbig,hk⟩:=Bv (ci X) V S ann hC fuel code h
 have key: ∀ {M:M U} {out:Out U} {τ0:St U} {gp:List Loc},M.Rel (ci X) τ [] (.out out) τ0 gp→(∀ (w:World) (vs:Array Value) (N0:aN) (ν:Nat→Nat) (δ:Nat→Option Nat) (hg:Given X w vs N0 ν δ args boxes),
   Lands X (gm w N0 boxes.length args.length ν δ S.nt hlow hg.bnd X.gblk hg.glob) [] e τ (bodyPost P fn (Ret X w N0 ν δ boxes.length args.length out)))→ci X f args boxes out:=by
  intro M out τ0 gp _ hl
  refine ⟨⟨fn,hf,hname,hbody⟩,fun w vs N0 ν δ hg=> ?_⟩
  suffices hgoal:Calls P f vs w (Ret X w N0 ν δ boxes.length args.length out) from hgoal.mono fun e w h=>Ret.full h
  refine calls_of_wp hf hcode ?_
  have hs:=BO hg hargs hlow
  rw [hnt]
  exact oX hm (oi hI hS fun d hd=>by rw [hpin] at hd;cases hd) rfl hbig _ w _ _ _ hs (hl w vs N0 ν δ hg)
 cases e with
 |exit id=>cases hk
 |normal=>
  obtain ⟨r,τ0,τ1,gp,hr,ht,hfin⟩:=gx hC _ hk (St.eqv.refl τ)
  cases r with
  |out o=>
   refine ⟨o,hfin,key hr fun w vs N0 ν δ hg a' w' g' D' hd hs=> ?_⟩
   obtain ⟨v,h1,h2⟩:=rz lc hg.dom hs hr
   exact ⟨hd,v,h1,h2⟩
  |_=>cases hfin
 |ret=>
  obtain ⟨r,τ0,τ1,gp,hr,ht,hfin⟩:=gx hC _ hk (St.eqv.refl τ)
  cases r with
  |out o=>
   refine ⟨o,hfin,key hr fun w vs N0 ν δ hg a' w' g' D' hd hs=> ?_⟩
   obtain ⟨v,h1,h2⟩:=rz lc hg.dom hs hr
   exact ⟨hd,v,h1,h2⟩
  |_=>cases hfin
 |panic v=>
  obtain ⟨r,τ0,τ1,gp,hr,ht,hfin⟩:=gx hC _ hk (St.eqv.refl τ)
  cases r with
  |out o=>
   refine ⟨o,hfin,key hr fun w vs N0 ν δ hg a' w' g' D' hd hs val hval=> ?_⟩
   exact ⟨hd,F0 lc hg.dom hs hval hr⟩
  |_=>cases hfin
end
end Go.Proofs.YtfkkpkhfjpaafaaGreatDoor.PI
