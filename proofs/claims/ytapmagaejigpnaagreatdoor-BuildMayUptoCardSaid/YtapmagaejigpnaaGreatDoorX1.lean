/- Part 1 of a proof: the sources, with their names and remarks, lie in wip/. -/
import Derived.Test.YtapmagaejigpnaaGreatDoorX0
import Derived.Laws.CopyRow
import Derived.Laws.Tables
import Derived.Laws.AppendOwn
import Derived.Laws.Small
namespace Go.Proofs.YtapmagaejigpnaaGreatDoor.PI
open Go
set_option linter.unusedVariables false
set_option linter.unusedSimpArgs false
section
variable {U:Uni} {V:Env U} {P:Program} {X:Link V P} {K:bU U} {S:Side U} {c:Ctx} {a:Act} {w:World} {σ:St U} {g:Gh U} {D:Nat→Option Nat}
variable {next:Act→World→Prop} {Q:Exit→Act→World→Prop} {r:MR U} {τ:St U} {fp gp:List Loc} {N:aw}
variable {dst:Option Tmp} {ty:TypeId} {pos:String} {after:Array Edge} {gd:Option (Nat×Bool)}
def At (X:Link V P) (w:World) (N:aw) (g:Gh U) (a:Addr) (cs:List (PV U)):Prop:=
 ∀ (k:Nat) p,cs[k]? =some p→ ∃v,w.cell? (a.add k)=some v∧Rep X w N g v p
theorem pB {t:TypeId} {r:Ty U} (hT:TyOK P X.etid X.etid t r) (w:World):(isAgg t).run P w= .ok r.agg w:=by
 obtain ⟨d,hu,hd⟩:=hT.agg
 simp only [isAgg,Sem.run_bind,run_underlying hu,Result.andThen_ok]
 rw [←hd]
 cases d<;>rfl
theorem yl {t:TypeId} {r:Ty U} (hT:TyOK P X.etid X.etid t r) (w:World):(sizeOf t).run P w= .ok r.size w:=by
 obtain ⟨i,z,hi,hs,_⟩:=hT.info
 simp [sizeOf,typeInfo,hi,hs]
theorem E3 {v:Value} {p:PV U} (h:Rep X w N g v p) (hc:p.cs.all PV.isCell=true):v.cells.size=p.cs.length∧(∀ (j:Nat) q,p.cs[j]? =some q→Rep X w N g (v.cells.getD j undef) q):=by
 have main: ∀ (v:Value) (p:PV U),Rep X w N g v p→p.cs=[p]→v.cells= #[v]→v.cells.size=p.cs.length∧(∀ (j:Nat) q,p.cs[j]? =some q→Rep X w N g (v.cells.getD j undef) q):=by
  intro v p h e1 e2
  rw [e1,e2]
  refine ⟨rfl,fun j q hq=> ?_⟩
  cases j with
  |zero=>simp at hq;subst hq;exact h
  |succ j=>simp at hq
 cases h with
 |undef v=>simp [PV.cs,PV.isCell] at hc
 |agg vs cs hl hh=>exact ⟨hl,hh⟩
 |tuple vs cs hl hh=>simp [PV.cs,PV.isCell] at hc
 |own i v val ver e val' hk hv he hs=>
  obtain ⟨A,n,cp,rfl⟩:=hs
  exact main _ _ (.own i v _ ver e val' hk hv he ⟨A,n,cp,rfl⟩) rfl rfl
 |optr i v j off val ver e val' hk hv he hs=>
  obtain ⟨A,rfl⟩:=hs
  exact main _ _ (.optr i v j off _ ver e val' hk hv he ⟨A,rfl⟩) rfl rfl
 |int k n=>exact main _ _ (.int k n) rfl rfl
 |bool b=>exact main _ _ (.bool b) rfl rfl
 |str s=>exact main _ _ (.str s) rfl rfl
 |sl A n c e l o val h1 h2 h3 h4 h5=>exact main _ _ (.sl A n c e l o val h1 h2 h3 h4 h5) rfl rfl
 |ptr id off b hb=>exact main _ _ (.ptr id off b hb) rfl rfl
 |aptr id n b hb hn=>exact main _ _ (.aptr id n b hb hn) rfl rfl
 |mp id b hb=>exact main _ _ (.mp id b hb) rfl rfl
 |eptr e x off a val h1 h2=>exact main _ _ (.eptr e x off a val h1 h2) rfl rfl
 |func f a0s bs vs us ha hb h1 h2=>exact main _ _ (.func f a0s bs vs us ha hb h1 h2) rfl rfl
 |iface t v p h=>exact main _ _ (.iface t v p h) rfl rfl
 |nilIface=>exact main _ _ .nilIface rfl rfl
 |nilPtr=>exact main _ _ .nilPtr rfl rfl
 |nilFunc=>exact main _ _ .nilFunc rfl rfl
theorem E4 {v:Value} {p:PV U} (h:Rep X w N g v p) (hc:p.isCell=true):v.oneCell'=true:=by
 cases h with
 |undef v=>simp [PV.isCell] at hc
 |agg=>simp [PV.isCell] at hc
 |tuple=>simp [PV.isCell] at hc
 |own i v val ver e val' hk hv he hs=>obtain ⟨A,n,cp,rfl⟩:=hs;rfl
 |optr i v j off val ver e val' hk hv he hs=>obtain ⟨A,rfl⟩:=hs;rfl
 |_=>rfl
theorem SV {t:TypeId} {cs:List (PV U)} {off:Nat} {x:PV U} {b:Addr} (hc:rf V t cs off=some x) (h:At X w N g b cs):
  ∃u,(loadVar t (b.add off)).run P w= .ok u w∧Rep X w N g u x:=by
 unfold rf at hc
 split at hc
 case h_2=>cases hc
 rename_i row hrow
 have hT:=X.ty t row hrow
 cases hag:row.agg with
 |true=>
  rw [hag] at hc
  simp only [cond_true] at hc
  cases hle:Nat.ble (off+row.size) cs.length with
  |false=>rw [hle] at hc;cases hc
  |true=>
   rw [hle] at hc
   simp only [cond_true,Option.some.injEq] at hc
   subst hc
   have hle':off+row.size≤cs.length:=by simpa using hle
   have hcell: ∀j,j<row.size→ ∃v p,cs[off+j]? =some p∧w.cell? ((b.add off).add j)=some v∧Rep X w N g v p:=by
    intro j hj
    have hlt:off+j<cs.length:=by omega
    obtain ⟨v,hv,hr⟩:=h (off+j) _ (List.getElem?_eq_getElem hlt)
    exact ⟨v,_,List.getElem?_eq_getElem hlt,by rw [Addr.add_add];exact hv,hr⟩
   have hrun:=run_loadCells (P:=P) w (b.add off) row.size (fun j=>(w.cell? ((b.add off).add j)).getD undef) (fun j hj=>by
    obtain ⟨v,p,_,hv,_⟩:=hcell j hj;rw [hv];rfl)
   refine ⟨.agg ((List.range row.size).map fun j=>(w.cell? ((b.add off).add j)).getD undef).toArray, ?_, ?_⟩
   ·simp only [loadVar,Sem.run_bind,pB hT,hag,Result.andThen_ok,if_true,yl hT,hrun,Sem.run_pure]
   ·refine .agg _ _ (by simp;omega) fun j p hp=> ?_
    have hj:j<row.size:=by
     have:=(List.getElem?_eq_some_iff.1 hp).1
     simp at this;omega
    obtain ⟨v,q,hq,hv,hr⟩:=hcell j hj
    have e1:p=q:=by
     rw [List.getElem?_take_of_lt hj,List.getElem?_drop] at hp
     rw [hp] at hq;cases hq;rfl
    subst e1
    have:((List.range row.size).map fun j=>(w.cell? ((b.add off).add j)).getD undef).toArray.getD j undef=v:=by
     simp [Array.getD_eq_getD_getElem?,hj,hv]
    rw [this];exact hr
 |false=>
  rw [hag] at hc
  simp only [cond_false] at hc
  obtain ⟨v,hv,hr⟩:=h off x hc
  exact ⟨v,by simp [loadVar,pB hT,hag,hv],hr⟩
theorem Af {k:Nat} {cs:List (PV U)} (h:BoxOK X w N g k (.cells cs)):At X w N g ⟨k,0,none⟩ cs:=by
 obtain ⟨cur,e,h1,h2,h3⟩:=h
 intro j p hp
 have hlt:j<cur.size:=by rw [h2];exact (List.getElem?_eq_some_iff.1 hp).1
 refine ⟨cur.getD j undef, ?_,h3 j p hp⟩
 rw [Addr.add_lit',Nat.zero_add]
 simp [World.cell?,h1,Array.getD_eq_getD_getElem?,hlt]
theorem Dd {e:U.E} {l:List (U.El e)} {val:Value} {u:Use} {Do:Option Nat} (h:ObOK X w N g e l val u Do) {j:Nat} {x:U.El e} (hx:l[j]? =some x) (hne:V.cells e x≠[]):
  ∃b n cp,val= .slice (some b) n cp∧At X w N g (b.add (j*X.esize e)) (V.cells e x):=by
 obtain ⟨A,n,cp,hv,_,_,h1,_⟩:=h.val
 cases hcs:V.cells e x with
 |nil=>exact absurd hcs hne
 |cons p0 rest=>
  obtain ⟨b,v,hA,_⟩:=h1 j x hx 0 p0 (by rw [hcs];rfl)
  subst hA
  refine ⟨b,n,cp,hv,fun k p hp=> ?_⟩
  obtain ⟨b',v,hb,hc,hr,_⟩:=h1 j x hx k p (hcs▸hp)
  cases hb
  exact ⟨v,by rw [Addr.add_add];exact hc,hr⟩
theorem rd (X:Link V P) {e:U.E} (x:U.El e):V.cells e x≠[]:=by
 intro h
 have h1:=X.len e x
 have h2:=X.epos e
 rw [h] at h1
 simp at h1;omega
theorem jL {i v:Nat} {k:Ob U→M U} (hr:(gQ i v k).Rel K σ fp r τ gp): ∃ob fp',σ.o i=some ob∧ob.ver=v∧(k ob).Rel K σ fp' r τ gp:=by
 unfold gQ at hr
 simp only [M.Rel] at hr
 split at hr
 ·rename_i ob hob
  cases hb:Nat.beq ob.ver v with
  |true=>rw [hb] at hr;exact ⟨ob,_,hob,by simpa using hb,hr⟩
  |false=>rw [hb] at hr;exact hr.elim
 ·exact hr.elim
theorem lQ {α:Type} {l:List α} {i:Int} {x:α} (h:av l i=some x):0≤i∧l[i.toNat]? =some x:=by
 unfold av at h
 split at h
 ·exact ⟨‹_›,h⟩
 ·cases h
theorem Lp: ∀ {cs:List (PV U)} {k:IntKind} {l:List Int},nq cs=some (k,l)→ ∀ (i:Nat) n,l[i]? =some n→cs[i]? =some (.int k n):=by
 intro cs
 induction cs with
 |nil=>intro k l h;simp [nq] at h
 |cons p cs ih=>
  intro k l h i n hn
  unfold nq at h
  split at h
  ·rename_i e;cases e
  ·rename_i k' m e
   injection e with e1 e2
   subst e1;subst e2
   cases h
   cases i with
   |zero=>simp at hn;subst hn;rfl
   |succ i=>simp at hn
  ·rename_i k' m rest _ e
   injection e with e1 e2
   subst e1;subst e2
   split at h
   ·rename_i k2 l2 h2
    split at h
    ·rename_i hk
     subst hk
     cases h
     cases i with
     |zero=>simp at hn;subst hn;rfl
     |succ i=>exact ih h2 i n (by simpa using hn)
    ·cases h
   ·cases h
  ·cases h
theorem B9 (h:Sim X c a.tmps w σ g D) {t:TypeId} {p:PV U} {u:Value} {k:PV U→M U} (hp:Rep X w (c.N g D) g u p) (hr:(tc V t p k).Rel K σ fp r τ gp):
  ∃x fp' v,(k x).Rel K σ fp' r τ gp∧(Instr.loadAt t u).run P w= .ok v w∧Rep X w (c.N g D) g v x:=by
 have fin: ∀ {cs:List (PV U)} {off:Nat} {b:Addr} {fp':List Loc},(j5 V t cs off k).Rel K σ fp' r τ gp→At X w (c.N g D) g b cs→u= .pointer (some (b.add off))→
   ∃x fp' v,(k x).Rel K σ fp' r τ gp∧(Instr.loadAt t u).run P w= .ok v w∧Rep X w (c.N g D) g v x:=by
  intro cs off b fp' hc hat hu
  unfold j5 at hc
  split at hc
  ·rename_i x hx
   obtain ⟨v,hv,hrep⟩:=SV hx hat
   exact ⟨x,_,v,hc,by simp [Instr.loadAt,hu,Instr.sureAddr,hv],hrep⟩
  ·exact hc.elim
 unfold tc at hr
 split at hr
 ·rename_i id off
  simp only [M.Rel] at hr
  split at hr
  ·rename_i cs hcs
   obtain ⟨kb,hkb,hbox⟩:=h.boxes _ _ hcs
   cases hp with
   |ptr _ _ b hb=>
    rw [hb] at hkb;cases hkb
    exact fin hr (Af hbox) (by rw [Addr.add_lit',Nat.zero_add])
  ·exact hr.elim
 ·rename_i e x off
  cases hp with
  |eptr _ _ _ b val h1 h2=>
   exact fin hr (fun k p hp=>⟨val k,(h1 k p hp).1,h2 k p hp⟩) rfl
 ·rename_i i v j off
  obtain ⟨ob,fp',hob,hver,hr2⟩:=jL hr
  obtain ⟨x,hx,hr3⟩:=hr2
  obtain ⟨h0,hx'⟩:=lQ hx
  obtain ⟨val,hkap,hOb⟩:=h.objs i ob hob
  cases hp with
  |optr _ _ _ _ _ ver e val' hk hv he hs=>
   rw [hkap] at hk
   injection hk with hk
   injection hk with e1 hk
   injection hk with e2 e3
   subst e1;subst e2;subst e3
   obtain ⟨b,n,cp,hval,rfl⟩:=he hver.symm
   obtain ⟨b',n',cp',hval',hat⟩:=Dd hOb hx' (rd X x)
   rw [hval] at hval'
   cases hval'
   exact fin hr3 hat (by rw [Addr.add_add])
 ·rename_i id n
  simp only [M.Rel] at hr
  split at hr
  ·rename_i cs hcs
   obtain ⟨kb,hkb,hbox⟩:=h.boxes _ _ hcs
   split at hr
   ·rename_i kd l row hl hrow
    cases hag:row.agg with
    |true=>rw [hag] at hr;exact hr.elim
    |false=>
     rw [hag] at hr
     obtain ⟨m,hm,hr2⟩:=hr
     obtain ⟨h0,hm'⟩:=lQ hm
     have hcell:=Lp hl _ _ hm'
     cases hp with
     |aptr _ _ b hb hn=>
      rw [hb] at hkb;cases hkb
      obtain ⟨v,hv,hrep⟩:=Af hbox _ _ hcell
      rw [Addr.add_lit',Nat.zero_add] at hv
      refine ⟨.int kd m,_,v,hr2, ?_,hrep⟩
      simp [Instr.loadAt,Instr.sureAddr,loadVar,pB (X.ty t row hrow),hag,hv]
   ·exact hr.elim
  ·exact hr.elim
 ·exact hr.elim
theorem Rq {t:TypeId} {x:Operand} (hd:a8 c.nt ⟨dst,.load t x,ty,pos,after,gd⟩=true) (h:Sim X c a.tmps w σ g D) (hr:(bv V S ⟨dst,.load t x,ty,pos,after,gd⟩).Rel K σ fp r τ gp)
  (ht:Then X c a r τ next Q):(⟨dst,.load t x,ty,pos,after,gd⟩:Oper).wp P a w next Q:=by
 obtain ⟨p,fp',hp,hr'⟩:=bK h hr
 obtain ⟨x',fp'',v,hr2,hrun,hrep⟩:=B9 h hp hr'
 exact bD hd ht h (by simp [execOp,hrun]) hrep hr2
end
end Go.Proofs.YtapmagaejigpnaaGreatDoor.PI
namespace Go.Proofs.YtapmagaejigpnaaGreatDoor.PI
open Go
set_option linter.unusedVariables false
set_option linter.unusedSimpArgs false
section
variable {U:Uni} {V:Env U} {P:Program} {X:Link V P} {K:bU U} {S:Side U} {c:Ctx} {tm:Array Value} {w:World} {σ:St U} {g:Gh U} {D:Nat→Option Nat}
variable {r:MR U} {τ:St U} {fp gp:List Loc} {N:aw}
theorem Rep.less {v:Value} {p q:PV U} (h:Rep X w N g v p) (hl:p.less q):Rep X w N g v q:=by
 rcases hl with rfl|⟨e,l,o,rfl,rfl⟩
 ·exact h
 ·cases h with
  |sl A n cp _ _ _ val h1 h2 h3 h4 h5=>exact .sl A n cp e l .none val h1 h2 trivial h4 h5
theorem ObOK.rep {e:U.E} {l:List (U.El e)} {val:Value} {u:Use} (h:ObOK X w N g e l val u none):Rep X w N g val (.sl e l .none):=by
 obtain ⟨A,n,cp,rfl,hl,hc,h1,_⟩:=h.val
 refine .sl A n cp e l .none (fun j k=>match A with|some a=>(w.cell? (a.add (j*X.esize e+k))).getD undef|none=>undef) hl hc trivial (fun j x hx k p hp=> ?_) (fun j x hx k p hp=> ?_)
 ·obtain ⟨a,v,rfl,hv,hr,hn⟩:=h1 j x hx k p hp
  exact ⟨a,rfl,by simp [hv],hn rfl⟩
 ·obtain ⟨a,v,rfl,hv,hr,hn⟩:=h1 j x hx k p hp
  simp [hv];exact hr
structure Same (σ σ':St U):Prop where
 r: ∀n,σ'.r n=σ.r n
 b: ∀n,σ'.b n=σ.b n
 o: ∀n,σ'.o n=σ.o n
theorem Same.refl (σ:St U):Same σ σ:=⟨fun _=>rfl,fun _=>rfl,fun _=>rfl⟩
theorem Same.trans {σ σ' σ'':St U} (h:Same σ σ') (h':Same σ' σ''):Same σ σ'':=
 ⟨fun n=>(h'.r n).trans (h.r n),fun n=>(h'.b n).trans (h.b n),fun n=>(h'.o n).trans (h.o n)⟩
structure Frozen (X:Link V P) (c:Ctx) (tm:Array Value) (w:World) (g:Gh U) (σ:St U) (D:Nat→Option Nat) (σ':St U) (D':Nat→Option Nat):Prop where
 same:Same σ σ'
 sim:Sim X c tm w σ' g D'
 D: ∀i b,D' i=some b→D i=some b
theorem Frozen.rep {σ':St U} {D':Nat→Option Nat} (h:Frozen X c tm w g σ D σ' D') {v:Value} {p:PV U} (hr:Rep X w (c.N g D) g v p):Rep X w (c.N g D') g v p:=
 hr.mono X (fun _ _ _ _=>rfl) (fun b o _ hn=>by
  rcases hn with hn|hn|⟨i,hi⟩
  ·exact .inl hn
  ·exact .inr (.inl hn)
  ·exact .inr (.inr ⟨i,h.D i b hi⟩)) (Gh.le.refl g)
theorem Frozen.refl (h:Sim X c tm w σ g D):Frozen X c tm w g σ D σ D:=⟨.refl σ,h,fun _ _ h=>h⟩
theorem Frozen.trans {σ' σ'':St U} {D' D'':Nat→Option Nat} (h:Frozen X c tm w g σ D σ' D') (h':Frozen X c tm w g σ' D' σ'' D''):Frozen X c tm w g σ D σ'' D'':=
 ⟨h.same.trans h'.same,h'.sim,fun i b hb=>h.D i b (h'.D i b hb)⟩
mutual
def PV.noOwn:PV U→Bool
 | .own .. =>false
 | .agg cs=>PV.noOwnL cs
 | .tuple cs=>PV.noOwnL cs
 | .func _ a b=>PV.noOwnL a&&PV.noOwnL b
 | .iface _ v=>PV.noOwn v
 |_=>true
def PV.noOwnL:List (PV U)→Bool
 |[]=>true
 |v::r=>PV.noOwn v&&PV.noOwnL r
end
mutual
theorem kg: ∀ (p:PV U) {σ:St U} {D:Nat→Option Nat} {v:Value} {k:PV U→M U} {fp:List Loc},Sim X c tm w σ g D→Rep X w (c.N g D) g v p→(frz p k).Rel K σ fp r τ gp→
  ∃q σ' D' fp',(k q).Rel K σ' fp' r τ gp∧Frozen X c tm w g σ D σ' D'∧Rep X w (c.N g D') g v q∧q.noOwn=true
 | .own i ver,σ,D,v,k,fp,h,hv,hr=>by
  unfold frz at hr
  obtain ⟨ob,fp',hob,hver,hr2⟩:=jL hr
  have hs:=h.frz (i:=i)
  have hF:Frozen X c tm w g σ D (σ.setU i .read) (fun j=>if j=i then none else D j):=⟨⟨fun _=>rfl,fun _=>rfl,fun _=>rfl⟩,hs,fun j b hb=>by
   split at hb
   ·cases hb
   ·exact hb⟩
  obtain ⟨val,hk,hO⟩:=hs.objs i ob hob
  rw [if_pos rfl] at hO
  refine ⟨_,_,_,_,hr2,hF, ?_,rfl⟩
  cases hv with
  |own _ _ _ ver' e val' hk' hle he _=>
   rw [hk] at hk'
   injection hk' with e1
   injection e1 with e1 e2
   injection e2 with e2 e3
   subst e2;subst e3;subst e1
   rw [he hver.symm]
   exact hO.rep
 | .agg cs,σ,D,v,k,fp,h,hv,hr=>by
  unfold frz at hr
  cases hv with
  |agg vs _ hl hh=>
   obtain ⟨qs,σ',D',fp',hk,hF,hlen,hq,hn⟩:=kf cs h (fun j=>vs.getD j undef) hh hr
   exact ⟨_,_,_,_,hk,hF,.agg vs qs (hl.trans hlen.symm) hq,by simp [PV.noOwn,hn]⟩
 | .tuple cs,σ,D,v,k,fp,h,hv,hr=>by
  unfold frz at hr
  cases hv with
  |tuple vs _ hl hh=>
   obtain ⟨qs,σ',D',fp',hk,hF,hlen,hq,hn⟩:=kf cs h (fun j=>vs.getD j undef) hh hr
   exact ⟨_,_,_,_,hk,hF,.tuple vs qs (hl.trans hlen.symm) hq,by simp [PV.noOwn,hn]⟩
 | .func f a b,σ,D,v,k,fp,h,hv,hr=>by
  unfold frz at hr
  cases hv with
  |func _ _ _ vs us ha hb h1 h2=>
   obtain ⟨qs,σ',D',fp',hk,hF,hlen,hq,hn⟩:=kf a h (fun j=>vs.getD j undef) h1 hr
   obtain ⟨qs',σ'',D'',fp'',hk',hF',hlen',hq',hn'⟩:=kf b hF.sim (fun j=>us.getD j undef) (fun j p hp=>hF.rep (h2 j p hp)) hk
   exact ⟨_,_,_,_,hk',hF.trans hF',.func f qs qs' vs us (ha.trans hlen.symm) (hb.trans hlen'.symm) (fun j p hp=>hF'.rep (hq j p hp)) hq',by simp [PV.noOwn,hn,hn']⟩
 | .iface t p,σ,D,v,k,fp,h,hv,hr=>by
  unfold frz at hr
  cases hv with
  |iface _ u _ hu=>
   obtain ⟨q,σ',D',fp',hk,hF,hq,hn⟩:=kg p h hu hr
   exact ⟨_,_,_,_,hk,hF,.iface t u q hq,by simp [PV.noOwn,hn]⟩
 | .undef,σ,D,v,k,fp,h,hv,hr=>⟨_,_,_,_,hr,.refl h,hv,rfl⟩
 | .int _ _,σ,D,v,k,fp,h,hv,hr=>⟨_,_,_,_,hr,.refl h,hv,rfl⟩
 | .bool _,σ,D,v,k,fp,h,hv,hr=>⟨_,_,_,_,hr,.refl h,hv,rfl⟩
 | .str _,σ,D,v,k,fp,h,hv,hr=>⟨_,_,_,_,hr,.refl h,hv,rfl⟩
 | .sl _ _ _,σ,D,v,k,fp,h,hv,hr=>⟨_,_,_,_,hr,.refl h,hv,rfl⟩
 | .fresh _ _,σ,D,v,k,fp,h,hv,hr=>⟨_,_,_,_,hr,.refl h,hv,rfl⟩
 | .ptr _ _,σ,D,v,k,fp,h,hv,hr=>⟨_,_,_,_,hr,.refl h,hv,rfl⟩
 | .aptr _ _,σ,D,v,k,fp,h,hv,hr=>⟨_,_,_,_,hr,.refl h,hv,rfl⟩
 | .eptr _ _ _,σ,D,v,k,fp,h,hv,hr=>⟨_,_,_,_,hr,.refl h,hv,rfl⟩
 | .optr _ _ _ _,σ,D,v,k,fp,h,hv,hr=>⟨_,_,_,_,hr,.refl h,hv,rfl⟩
 | .mp _,σ,D,v,k,fp,h,hv,hr=>⟨_,_,_,_,hr,.refl h,hv,rfl⟩
 | .nilIface,σ,D,v,k,fp,h,hv,hr=>⟨_,_,_,_,hr,.refl h,hv,rfl⟩
 | .nilPtr,σ,D,v,k,fp,h,hv,hr=>⟨_,_,_,_,hr,.refl h,hv,rfl⟩
 | .nilFunc,σ,D,v,k,fp,h,hv,hr=>⟨_,_,_,_,hr,.refl h,hv,rfl⟩
theorem kf: ∀ (ps:List (PV U)) {σ:St U} {D:Nat→Option Nat} {k:List (PV U)→M U} {fp:List Loc},Sim X c tm w σ g D→(vs:Nat→Value)→(∀ (j:Nat) p,ps[j]? =some p→Rep X w (c.N g D) g (vs j) p)→(g_ ps k).Rel K σ fp r τ gp→
  ∃qs σ' D' fp',(k qs).Rel K σ' fp' r τ gp∧Frozen X c tm w g σ D σ' D'∧qs.length=ps.length∧(∀ (j:Nat) p,qs[j]? =some p→Rep X w (c.N g D') g (vs j) p)∧PV.noOwnL qs=true
 |[],σ,D,k,fp,h,vs,hv,hr=>⟨[],_,_,_,hr,.refl h,rfl,by simp,rfl⟩
 |p::ps,σ,D,k,fp,h,vs,hv,hr=>by
  unfold g_ at hr
  obtain ⟨q,σ',D',fp',hk,hF,hq,hn⟩:=kg p h (hv 0 p rfl) hr
  obtain ⟨qs,σ'',D'',fp'',hk',hF',hlen,hqs,hn'⟩:=kf ps hF.sim (fun j=>vs (j+1)) (fun j p hp=>hF.rep (hv (j+1) p (by simpa using hp))) hk
  refine ⟨q::qs,_,_,_,hk',hF.trans hF',by simp [hlen],fun j p hp=> ?_,by simp [PV.noOwnL,hn,hn']⟩
  cases j with
  |zero=>simp at hp;subst hp;exact hF'.rep hq
  |succ j=>exact hqs j p (by simpa using hp)
end
end
end Go.Proofs.YtapmagaejigpnaaGreatDoor.PI
namespace Go.Proofs.YtapmagaejigpnaaGreatDoor.PI
open Go
set_option linter.unusedVariables false
set_option linter.unusedSimpArgs false
section
variable {U:Uni} {V:Env U} {P:Program} {X:Link V P} {K:bU U} {S:Side U} {c:Ctx} {a:Act} {w:World} {σ:St U} {g:Gh U} {D:Nat→Option Nat}
variable {next:Act→World→Prop} {Q:Exit→Act→World→Prop} {r:MR U} {τ:St U} {fp gp:List Loc} {N:aw}
variable {dst:Option Tmp} {ty:TypeId} {pos:String} {after:Array Edge} {gd:Option (Nat×Bool)}
theorem sK {t:TypeId} {v:Value} {p:PV U} (hf:gz V t p=true) (h:Rep X w N g v p): ∃row,V.ty t=some row∧p.cs.length=row.size∧v.cells.size=row.size∧
  (∀ (j:Nat) q,p.cs[j]? =some q→Rep X w N g (v.cells.getD j undef) q)∧(∀x∈v.cells.toList,x.oneCell'=true):=by
 unfold gz at hf
 split at hf
 case h_2=>cases hf
 rename_i row hrow
 simp only [Bool.and_eq_true] at hf
 obtain ⟨h1,h2⟩:=hf
 obtain ⟨h3,h4⟩:=E3 h h2
 have h1':p.cs.length=row.size:=by simpa using h1
 refine ⟨row,hrow,h1',by omega,h4,fun x hx=> ?_⟩
 obtain ⟨j,hj,rfl⟩:=List.getElem_of_mem hx
 have hj':j<p.cs.length:=by simp at hj;omega
 have:=h4 j _ (List.getElem?_eq_getElem hj')
 have hx:v.cells.getD j undef=v.cells.toList[j]:=by simp at hj;simp [Array.getD_eq_getD_getElem?,hj]
 rw [hx] at this
 exact E4 this (List.all_eq_true.1 h2 _ (List.getElem_mem hj'))
theorem m7 {α:Type} (l m:List α) (off j:Nat) (h:off+m.length≤l.length):
  (l.take off++(m++l.drop (off+m.length)))[j]? =if j<off then l[j]? else if j<off+m.length then m[j-off]? else l[j]? :=by
 have hl:(l.take off).length=off:=by simp;omega
 by_cases h1:j<off
 ·rw [List.getElem?_append_left (by omega),if_pos h1,List.getElem?_take_of_lt h1]
 ·rw [List.getElem?_append_right (by omega),hl,if_neg h1]
  by_cases h2:j<off+m.length
  ·rw [if_pos h2,List.getElem?_append_left (by omega)]
  ·rw [if_neg h2,List.getElem?_append_right (by omega),List.getElem?_drop]
   congr 1;omega
theorem ug {α:Type} (l m:List α) (off:Nat) (h:off+m.length≤l.length):(l.take off++(m++l.drop (off+m.length))).length=l.length:=by
 simp;omega
theorem Gg {cur us:List Value} {cs ps:List (PV U)} {off:Nat} (hl:cur.length=cs.length) (hl':us.length=ps.length) (hle:off+ps.length≤cs.length)
  (h1: ∀ (j:Nat) p,cs[j]? =some p→Rep X w N g (cur.getD j undef) p) (h2: ∀ (j:Nat) p,ps[j]? =some p→Rep X w N g (us.getD j undef) p):
  ∀ (j:Nat) p,(eT cs off ps)[j]? =some p→Rep X w N g ((cur.take off++(us++cur.drop (off+us.length))).getD j undef) p:=by
 intro j p hp
 unfold eT at hp
 rw [m7 _ _ _ _ hle] at hp
 rw [List.getD_eq_getElem?_getD,m7 _ _ _ _ (by omega)]
 split at hp
 ·rw [if_pos ‹_›,←List.getD_eq_getElem?_getD];exact h1 j p hp
 ·rw [if_neg ‹_›]
  split at hp
  ·rw [if_pos (by omega),←List.getD_eq_getElem?_getD];exact h2 _ p hp
  ·rw [if_neg (by omega),←List.getD_eq_getElem?_getD];exact h1 j p hp
theorem Fy (X:Link V P) {t:TypeId} {row:Ty U} (hrow:V.ty t=some row) {k off:Nat} {cur:Array Value} {e:TypeId} {u:Value} (hk:w.heap[k]? =some (.cells cur e (0,0)))
  (hs:u.cells.size=row.size) (hle:off+u.cells.size≤cur.size) (h1: ∀x∈u.cells.toList,x.oneCell'=true):
  (Instr.storeAt t (.pointer (some ⟨k,off,none⟩)) u).run P w= .ok () (w.setRow k (cur.toList.take off++(u.cells.toList++cur.toList.drop (off+u.cells.toList.length))).toArray):=by
 have hst:=run_storeCells_at P k off e u.cells.toList 0 cur w hk (by simpa using hle) h1
 simp only [Nat.add_zero,List.append_assoc] at hst
 simp only [Instr.storeAt,Instr.sureAddr,Sem.run_bind,Sem.run_pure,Result.andThen_ok,storeVar,yl (X:=X) (X.ty t row hrow),hs,ne_eq,not_true,if_false,hst]
theorem T_ (h:Sim X c a.tmps w σ g D) {t:TypeId} {p v:PV U} {u x:Value} {m:M U} (hp:Rep X w (c.N g D) g u p) (hv:Rep X w (c.N g D) g x v) (hr:(yE V t p v m).Rel K σ fp r τ gp):
  ∃σ' D' fp' w',m.Rel K σ' fp' r τ gp∧(Instr.storeAt t u x).run P w= .ok () w'∧Sim X c a.tmps w' σ' g D':=by
 unfold yE at hr
 split at hr
 ·rename_i id off
  simp only [M.Rel] at hr
  split at hr
  ·rename_i cs hcs
   cases hb:gz V t v&&Nat.ble (off+v.cs.length) cs.length with
   |false=>rw [hb] at hr;exact hr.elim
   |true=>
    rw [hb] at hr
    simp only [Bool.and_eq_true,Nat.ble_eq] at hb
    obtain ⟨hf,hle⟩:=hb
    obtain ⟨row,hrow,hl1,hl2,hcells,hone⟩:=sK hf hv
    obtain ⟨k,hk,cur,e,hblk,hsz,hcur⟩:=h.boxes _ _ hcs
    cases hp with
    |ptr _ _ b hb=>
     rw [hb] at hk
     injection hk with hk
     subst hk
     have hrun:=Fy X hrow hblk hl2 (off:=off) (by omega) hone
     refine ⟨_,D,_,_,hr,hrun, ?_⟩
     have hw: ∀b' o,b'<w.heap.size→ ¬ (c.N g D) b' o→(w.setRow b (cur.toList.take off++(x.cells.toList++cur.toList.drop (off+x.cells.toList.length))).toArray).cell? ⟨b',o,none⟩=w.cell? ⟨b',o,none⟩:=fun b' o _ hn=>
      cell_setRow_other w b _ _ (fun e=>hn (.inr (.inl ⟨id,by simp at e;rw [e];exact hb⟩)))
     refine h.setBox hb rfl rfl rfl (by simp) (fun b' hne=>setRow_other w b b' _ hne) ⟨_,e,setRow_heap w b cur _ e _ hblk, ?_,fun j q hq=> ?_⟩
     ·simp only [eT,List.size_toArray,List.length_append,List.length_take,List.length_drop,Array.length_toList];omega
     ·have:=Gg (X:=X) (w:=w) (N:=c.N g D) (g:=g) (cur:=cur.toList) (us:=x.cells.toList) (by simpa using hsz) (by simp;omega) hle (fun j p hp=>by
        have:=hcur j p hp
        simpa [Array.getD_eq_getD_getElem?,List.getD_eq_getElem?_getD] using this) (fun j p hp=>by
        have:=hcells j p hp
        simpa [Array.getD_eq_getD_getElem?,List.getD_eq_getElem?_getD] using this) j q hq
      have:=this.mono X hw (fun _ _ _ h=>h) (Gh.le.refl g)
      simpa [Array.getD_eq_getD_getElem?,List.getD_eq_getElem?_getD] using this
  ·exact hr.elim
 ·rename_i i ver j off
  obtain ⟨v',σ1,D1,fp1,hr1,hF,hv1,_⟩:=kg v h hv hr
  have hp1:=hF.rep hp
  have h1:=hF.sim
  obtain ⟨ob,fp2,hob,hver,hr2⟩:=jL hr1
  simp only [M.Rel] at hr2
  cases hu:σ1.u i with
  |read=>rw [hu] at hr2;exact hr2.elim
  |app=>rw [hu] at hr2;exact hr2.elim
  |wr=>
   rw [hu] at hr2
   obtain ⟨y,hy,hr3⟩:=hr2
   obtain ⟨h0,hy'⟩:=lQ hy
   dsimp only at hr3
   cases hb:gz V t v'&&Nat.ble (off+v'.cs.length) (V.cells ob.e y).length with
   |false=>rw [hb] at hr3;exact hr3.elim
   |true=>
    rw [hb] at hr3
    simp only [Bool.and_eq_true,Nat.ble_eq] at hb
    obtain ⟨hf,hle⟩:=hb
    simp only [cond_true] at hr3
    split at hr3
    case h_2=>exact hr3.elim
    rename_i z hz
    obtain ⟨row,hrow,hl1,hl2,hcells,hone⟩:=sK hf hv1
    obtain ⟨val,hkap,hOb⟩:=h1.objs i ob hob
    rw [hu] at hOb
    obtain ⟨A,n,cp,hval,hlen,hcp,hcl,hD⟩:=hOb.val
    have hlen':=X.len ob.e y
    cases hDi:D1 i with
    |none=>
     rw [hDi] at hD
     have:=(hD.1 rfl)
     have hlt:=(List.getElem?_eq_some_iff.1 hy').1
     omega
    |some b=>
     rw [hDi] at hD
     obtain ⟨_,cur,hA,hblk,hsz,hmax⟩:=hD
     cases hp1 with
     |optr _ _ _ _ _ ver' e' val' hk' hle' he hs=>
      rw [hkap] at hk'
      injection hk' with hk'
      injection hk' with e1 hk'
      injection hk' with e2 e3
      subst e1;subst e2;subst e3
      obtain ⟨b',n',cp',hval',hu'⟩:=he hver.symm
      subst hA
      rw [hval] at hval'
      injection hval' with q1 q2 q3
      injection q1 with q1
      subst q1;subst q2;subst q3
      rw [Addr.add_lit',Nat.zero_add] at hu'
      subst hu'
      have hjlt:j.toNat<n:=by have:=(List.getElem?_eq_some_iff.1 hy').1;omega
      have hbound:j.toNat*X.esize ob.e+X.esize ob.e≤cp*X.esize ob.e:=by
       have:(j.toNat+1)*X.esize ob.e≤cp*X.esize ob.e:=Nat.mul_le_mul_right _ (by omega)
       rw [Nat.add_mul,Nat.one_mul] at this;exact this
      have hrun:=Fy X hrow hblk hl2 (off:=j.toNat*X.esize ob.e+off) (by omega) hone
      refine ⟨_,D1,_,_,hr3,hrun, ?_⟩
      obtain ⟨t1,t2,t3⟩:=X.toEl _ _ _ hz
      have hN:(c.N g D1)=(c.N g D1):=rfl
      have hw: ∀b' o,b'<w.heap.size→ ¬ (c.N g D1) b' o→(w.setRow b (cur.toList.take (j.toNat*X.esize ob.e+off)++(x.cells.toList++cur.toList.drop (j.toNat*X.esize ob.e+off+x.cells.toList.length))).toArray).cell? ⟨b',o,none⟩=w.cell? ⟨b',o,none⟩:=fun b' o _ hn=>
       cell_setRow_other w b _ _ (fun e=>hn (.inr (.inr ⟨i,by simp at e;rw [e];exact hDi⟩)))
      have hmono: ∀ {v:Value} {p:PV U},Rep X w (c.N g D1) g v p→Rep X (w.setRow b (cur.toList.take (j.toNat*X.esize ob.e+off)++(x.cells.toList++cur.toList.drop (j.toNat*X.esize ob.e+off+x.cells.toList.length))).toArray) (c.N g D1) g v p:=
       fun h=>h.mono X hw (fun _ _ _ h=>h) (Gh.le.refl g)
      have hcurlen:(cur.toList.take (j.toNat*X.esize ob.e+off)++(x.cells.toList++cur.toList.drop (j.toNat*X.esize ob.e+off+x.cells.toList.length))).length=cur.size:=by
       rw [ug _ _ _ (by simp;omega)];simp
      refine h1.objsTurn (fun q=>q=i) rfl rfl rfl (by simp) (fun b' _ hne=>setRow_other w b b' _ (fun e=>hne i rfl (e▸hDi))) (fun _=>rfl) (fun _=>rfl) rfl (Gh.le.refl g)
       (fun q b' hq=>by
        by_cases hqi:q=i
        ·exact .inr (.inl ⟨i,rfl,by rw [←hqi];exact hq⟩)
        ·exact .inl ⟨hqi,hq⟩)
       (fun q q' b' _ hq hq'=>h1.dinj _ _ _ hq hq')
       (fun q hq=>⟨by rw [St.setO_o,if_neg (Ne.symm hq)],rfl,rfl,rfl⟩)
       (fun q ob' hq hob'=> ?_) (fun q hq ho=>by subst hq;rw [St.setO_o,if_pos rfl] at ho;cases ho)
      subst hq
      rw [St.setO_o,if_pos rfl] at hob'
      injection hob' with hob'
      subst hob'
      refine ⟨val,hkap, ?_⟩
      simp only [St.setO_u,hu,hDi]
      refine ⟨some ⟨b,0,none⟩,n,cp,hval,by simpa using hlen,hcp,fun j' x' hx' k' p' hp'=> ?_,by simp,_,rfl,setRow_heap w b cur _ _ _ hblk,by rw [List.size_toArray,hcurlen,hsz],hmax⟩
      have hkl:k'<X.esize ob.e:=by have:=(List.getElem?_eq_some_iff.1 hp').1;rw [X.len] at this;exact this
      refine ⟨⟨b,0,none⟩,(cur.toList.take (j.toNat*X.esize ob.e+off)++(x.cells.toList++cur.toList.drop (j.toNat*X.esize ob.e+off+x.cells.toList.length))).getD (j'*X.esize ob.e+k') undef,rfl, ?_, ?_,by simp⟩
      ·rw [Addr.add_lit',Nat.zero_add,cell_setRow_same w b _ cur _ _ (0,0) hblk]
       have hj'lt:j'<n:=by
        have:=(List.getElem?_eq_some_iff.1 hx').1
        simp at this;omega
       have hb2:j'*X.esize ob.e+X.esize ob.e≤cp*X.esize ob.e:=by
        have:(j'+1)*X.esize ob.e≤cp*X.esize ob.e:=Nat.mul_le_mul_right _ (by omega)
        rw [Nat.add_mul,Nat.one_mul] at this;exact this
       have hlt:j'*X.esize ob.e+k'<(cur.toList.take (j.toNat*X.esize ob.e+off)++(x.cells.toList++cur.toList.drop (j.toNat*X.esize ob.e+off+x.cells.toList.length))).length:=by
        rw [hcurlen];omega
       rw [List.getElem?_toArray,List.getD_eq_getElem?_getD,List.getElem?_eq_getElem hlt];rfl
      ·apply hmono
       rw [List.getElem?_set] at hx'
       rw [List.getD_eq_getElem?_getD,m7 _ _ _ _ (by simp;omega)]
       have hold: ∀ (j2 k2:Nat) x2 p2,ob.l[j2]? =some x2→(V.cells ob.e x2)[k2]? =some p2→Rep X w (c.N g D1) g (cur.toList[j2*X.esize ob.e+k2]?.getD undef) p2:=by
        intro j2 k2 x2 p2 hx2 hp2
        obtain ⟨a2,v2,ha2,hc2,hr2,_⟩:=hcl j2 x2 hx2 k2 p2 hp2
        cases ha2
        rw [Addr.add_lit',Nat.zero_add] at hc2
        unfold World.cell? at hc2
        rw [hblk] at hc2
        simp at hc2
        simp [hc2];exact hr2
       by_cases hjj:j.toNat=j'
       ·subst hjj
        rw [if_pos rfl] at hx'
        split at hx'
        case isFalse=>cases hx'
        injection hx' with hx'
        subst hx'
        have hsl:=ug (V.cells ob.e y) v'.cs off hle
        have hk2:k'<(eT (V.cells ob.e y) off v'.cs).length:=by unfold eT;rw [hsl,X.len];exact hkl
        obtain ⟨q,hq,hless⟩:=t3 k' _ (List.getElem?_eq_getElem hk2)
        rw [hp'] at hq
        injection hq with hq
        subst hq
        refine Rep.less ?_ hless
        have hsp:(eT (V.cells ob.e y) off v'.cs)[k']? =some (eT (V.cells ob.e y) off v'.cs)[k']:=List.getElem?_eq_getElem hk2
        generalize (eT (V.cells ob.e y) off v'.cs)[k']=sp at hsp
        unfold eT at hsp
        rw [m7 _ _ _ _ hle] at hsp
        by_cases hA:k'<off
        ·rw [if_pos hA] at hsp
         rw [if_pos (by omega)]
         exact hold _ _ _ _ hy' hsp
        ·rw [if_neg hA] at hsp
         rw [if_neg (by omega)]
         by_cases hB:k'<off+v'.cs.length
         ·rw [if_pos hB] at hsp
          rw [if_pos (by simp;omega),show j.toNat*X.esize ob.e+k'-(j.toNat*X.esize ob.e+off)=k'-off by omega]
          have:=hcells _ _ hsp
          simpa [Array.getD_eq_getD_getElem?] using this
         ·rw [if_neg hB] at hsp
          rw [if_neg (by simp;omega)]
          exact hold _ _ _ _ hy' hsp
       ·rw [if_neg hjj] at hx'
        have hne: ¬ (j.toNat*X.esize ob.e+off≤j'*X.esize ob.e+k'∧j'*X.esize ob.e+k'<j.toNat*X.esize ob.e+off+x.cells.toList.length):=by
         rintro ⟨q1,q2⟩
         have hsz':off+x.cells.toList.length≤X.esize ob.e:=by simp;omega
         rcases Nat.lt_or_gt_of_ne hjj with h3|h3
         ·have:(j.toNat+1)*X.esize ob.e≤j'*X.esize ob.e:=Nat.mul_le_mul_right _ h3
          rw [Nat.add_mul,Nat.one_mul] at this;omega
         ·have:(j'+1)*X.esize ob.e≤j.toNat*X.esize ob.e:=Nat.mul_le_mul_right _ h3
          rw [Nat.add_mul,Nat.one_mul] at this;omega
        have:=hold _ _ _ _ hx' hp'
        split
        ·exact this
        ·split
         ·omega
         ·exact this
 ·exact hr.elim
theorem RD {t:TypeId} {x y:Operand} (h:Sim X c a.tmps w σ g D) (hr:(bv V S ⟨dst,.store t x y,ty,pos,after,gd⟩).Rel K σ fp r τ gp)
  (ht:Then X c a r τ next Q):(⟨dst,.store t x y,ty,pos,after,gd⟩:Oper).wp P a w next Q:=by
 cases hdst:dst with
 |some d=>subst hdst;exact hr.elim
 |none=>
 subst hdst
 obtain ⟨p,fp1,hp,hr1⟩:=bK h hr
 obtain ⟨v,fp2,hv,hr2⟩:=bK h hr1
 have hdst:(none:Option Tmp)=none:=rfl
 obtain ⟨σ',D',fp',w',hr3,hrun,hs⟩:=T_ h hp hv hr2
 obtain ⟨h1,h2,_⟩:=hr3
 subst h2
 exact wp_skip ht hdst hs (by simp [execOp,hrun]) h1
end
end Go.Proofs.YtapmagaejigpnaaGreatDoor.PI
namespace Go.Proofs.YtapmagaejigpnaaGreatDoor.PI
open Go
set_option linter.unusedVariables false
set_option linter.unusedSimpArgs false
section
variable {U:Uni} {V:Env U} {P:Program} {X:Link V P} {K:bU U} {S:Side U} {c:Ctx} {a:Act} {w:World} {σ:St U} {g:Gh U} {D:Nat→Option Nat}
variable {next:Act→World→Prop} {Q:Exit→Act→World→Prop} {r:MR U} {τ:St U} {fp gp:List Loc} {N:aw}
variable {dst:Option Tmp} {ty:TypeId} {pos:String} {after:Array Edge} {gd:Option (Nat×Bool)}
theorem si {op:Op} {d:Nat} {nt:Nat} (h:a8 nt ⟨some d,op,ty,pos,after,gd⟩=true):d<nt:=by simpa [a8] using h
theorem H7 {op:Op} {d:Nat} (hd:a8 c.nt ⟨some d,op,ty,pos,after,gd⟩=true) (h:Sim X c a.tmps w σ g D) {b:Nat} (hfree:σ.b b=none) (hfix:c.fix b=none) {cells:Array Value} {et:TypeId} {cs:List (PV U)}
  (hsz:cells.size=cs.length) (hc: ∀ (j:Nat) p,cs[j]? =some p→Rep X w (c.N g D) g (cells.getD j undef) p)
  (hrun:(execOp a.eval ⟨some d,op,ty,pos,after,gd⟩).run P w= .ok (.value (.pointer (some ⟨w.heap.size,0,none⟩))) (w.alloc (.cells cells et)))
  (hr:r= .done) (hτ:τ=(σ.setB b (.cells cs)).setR d (.ptr b 0)) (ht:Then X c a r τ next Q):(⟨some d,op,ty,pos,after,gd⟩:Oper).wp P a w next Q:=by
 subst hτ
 have hs:=h.newBox hfree hfix (o:= .cells cells et) (b:= .cells cs) ⟨cells,et,heap_alloc_new w _,hsz,fun j p hp=>h.newRep hfree _ (hc j p hp)⟩
 obtain ⟨h1,h2⟩:=hs.putAct (o:=⟨some d,op,ty,pos,after,gd⟩) hd (p:= .ptr b 0) (.ptr b 0 w.heap.size (by simp [Gh.put]))
 unfold Oper.wp
 rw [hrun]
 exact ht.done hr _ _ _ _ h2 h1
def PinOK (S:Side U) (c:Ctx):Prop:= ∀d,S.pin d=true→c.fix (5000000+d)=none
theorem PinOK.free (hP:PinOK S c) {d:Nat} (hd:d<c.nt):c.fix (S.boxId d)=none:=by
 unfold Side.boxId
 cases hp:S.pin d with
 |true=>exact hP d hp
 |false=>exact c.free hd
theorem Ra (hP:PinOK S c) {t:TypeId} (hd:a8 c.nt ⟨dst,.alloc t,ty,pos,after,gd⟩=true) (h:Sim X c a.tmps w σ g D) (hr:(bv V S ⟨dst,.alloc t,ty,pos,after,gd⟩).Rel K σ fp r τ gp)
  (ht:Then X c a r τ next Q):(⟨dst,.alloc t,ty,pos,after,gd⟩:Oper).wp P a w next Q:=by
 simp only [bv] at hr
 split at hr
 case h_2=>exact hr.elim
 rename_i d z hz
 simp only [M.Rel] at hr
 split at hr
 case h_2=>exact hr.elim
 rename_i hfree
 obtain ⟨h1,h2,_⟩:=hr
 unfold Env.zero at hz
 split at hz
 case h_2=>cases hz
 rename_i row hrow
 injection hz with hz
 subst hz
 obtain ⟨i,zv,hi,hs,hzero,hzs⟩:=(X.ty t row hrow).info
 obtain ⟨hl,hrep⟩:=Ig X (w:=w) (N:=c.N g D) (g:=g) hzs
 refine H7 hd h hfree (hP.free (si hd)) (cells:=zv.cells) (et:=t) (by simpa using hl) (fun j p hp=> ?_) ?_ h1 h2 ht
 ·have:=hrep j p hp
  simpa [Array.getD_eq_getD_getElem?,List.getD_eq_getElem?_getD] using this
 ·simp [execOp,Instr.alloc,zeroValue,typeInfo,hi,hzero,newVar,newRow]
theorem Re (hP:PinOK S c) {t:TypeId} {x:Operand} (hd:a8 c.nt ⟨dst,.box t x,ty,pos,after,gd⟩=true) (h:Sim X c a.tmps w σ g D) (hr:(bv V S ⟨dst,.box t x,ty,pos,after,gd⟩).Rel K σ fp r τ gp)
  (ht:Then X c a r τ next Q):(⟨dst,.box t x,ty,pos,after,gd⟩:Oper).wp P a w next Q:=by
 obtain ⟨p,fp1,hp,hr1⟩:=bK h hr
 split at hr1
 case h_2=>exact hr1.elim
 rename_i d hdd
 cases hdd
 simp only [M.Rel] at hr1
 split at hr1
 case h_2=>exact hr1.elim
 rename_i hfree
 cases hf:gz V t p with
 |false=>rw [hf] at hr1;exact hr1.elim
 |true=>
  rw [hf] at hr1
  obtain ⟨h1,h2,_⟩:=hr1
  obtain ⟨row,hrow,hl1,hl2,hcells,_⟩:=sK hf hp
  exact H7 hd h hfree (hP.free (si hd)) (cells:=(a.eval x).cells) (et:=t) (by omega) hcells (by simp [execOp,Instr.box,newVar,newRow]) h1 h2 ht
theorem SU {f:Field} {q:TypeInfo} (hi:P.info? f.type=some q) (hq:0<q.size) (b:Addr) (w:World):(fieldPlace b f).run P w= .ok (b.add f.offset) w:=by
 have:q.size≠0:=by omega
 simp [fieldPlace,sizeOf,typeInfo,hi,this]
theorem Ge {t:TypeId} {i off:Nat} {ft:TypeId} (X:Link V P) (h:V.soff t i=some (off,ft)): ∃ (fs:Array Field) (f:Field) (q:TypeInfo),P.underlying t=some (.struct fs)∧fs[i]? =some f∧f.offset=off∧f.type=ft∧P.info? ft=some q∧0<q.size:=by
 unfold Env.soff at h
 split at h
 ·rename_i row hrow
  split at h
  ·rename_i harr;exact (X.ty t row hrow).fields harr i off ft h
  ·cases h
 ·cases h
theorem Rm {s:TypeId} {x:Operand} {f:Nat} (hd:a8 c.nt ⟨dst,.fieldAddr s x f,ty,pos,after,gd⟩=true) (h:Sim X c a.tmps w σ g D) (hr:(bv V S ⟨dst,.fieldAddr s x f,ty,pos,after,gd⟩).Rel K σ fp r τ gp)
  (ht:Then X c a r τ next Q):(⟨dst,.fieldAddr s x f,ty,pos,after,gd⟩:Oper).wp P a w next Q:=by
 obtain ⟨p,fp1,hp,hr1⟩:=bK h hr
 have run: ∀ {off:Nat} {ft:TypeId} {b:Addr},V.soff s f=some (off,ft)→a.eval x= .pointer (some b)→(execOp a.eval ⟨dst,.fieldAddr s x f,ty,pos,after,gd⟩).run P w= .ok (.value (.pointer (some (b.add off)))) w:=by
  intro off ft b ho he
  obtain ⟨fs,fd,q,hu,hf,h1,h2,h3,h4⟩:=Ge X ho
  subst h1;subst h2
  simp [execOp,Instr.fieldAt,run_underlying hu,hf,he,Instr.sureAddr,SU h3 h4]
 split at hr1
 ·rename_i off ft id n ho
  have hp':=hp
  generalize he:a.eval x=ev at hp
  cases hp with
  |ptr _ _ b hb=>exact bD hd ht h (run ho he) (by rw [Addr.add_lit'];exact .ptr id (n+off) b hb) hr1
 ·rename_i off ft e y n ho
  generalize he:a.eval x=ev at hp
  cases hp with
  |eptr _ _ _ b val h1 h2=>exact bD hd ht h (run ho he) (by rw [Addr.add_add];exact .eptr e y (n+off) b val h1 h2) hr1
 ·rename_i off ft i v j n ho
  generalize he:a.eval x=ev at hp
  cases hp with
  |optr _ _ _ _ val ver e val' hk hv he' hs=>
   obtain ⟨b,rfl⟩:=hs
   refine bD hd ht h (run ho he) (.optr i v j (n+off) _ ver e val' hk hv (fun hver=> ?_) ⟨_,rfl⟩) hr1
   obtain ⟨b',n',cp,h1,h2⟩:=he' hver
   injection h2 with h2
   injection h2 with h2
   subst h2
   exact ⟨b',n',cp,h1,by rw [Addr.add_add,Nat.add_assoc]⟩
 ·exact hr1.elim
theorem Rl {s:TypeId} {x:Operand} {f:Nat} (hd:a8 c.nt ⟨dst,.field s x f,ty,pos,after,gd⟩=true) (h:Sim X c a.tmps w σ g D) (hr:(bv V S ⟨dst,.field s x f,ty,pos,after,gd⟩).Rel K σ fp r τ gp)
  (ht:Then X c a r τ next Q):(⟨dst,.field s x f,ty,pos,after,gd⟩:Oper).wp P a w next Q:=by
 obtain ⟨p,fp1,hp,hr1⟩:=bK h hr
 split at hr1
 case h_2=>exact hr1.elim
 rename_i off ft cs ho
 unfold j5 at hr1
 split at hr1
 case h_2=>exact hr1.elim
 rename_i y hy
 obtain ⟨fs,fd,q,hu,hf,h1,h2,h3,h4⟩:=Ge X ho
 subst h1;subst h2
 generalize he:a.eval x=ev at hp
 cases hp with
 |agg vs _ hl hh=>
  unfold rf at hy
  split at hy
  case h_2=>cases hy
  rename_i row hrow
  have hT:=X.ty fd.type row hrow
  cases hag:row.agg with
  |true=>
   rw [hag] at hy
   simp only [cond_true] at hy
   cases hle:Nat.ble (fd.offset+row.size) cs.length with
   |false=>rw [hle] at hy;cases hy
   |true=>
    rw [hle] at hy
    simp only [cond_true,Option.some.injEq] at hy
    subst hy
    have hle':fd.offset+row.size≤cs.length:=by simpa using hle
    refine bD hd ht h (v:= .agg (vs.extract fd.offset (fd.offset+row.size))) ?_ (.agg _ _ ?_ fun j p hp=> ?_) hr1
    ·simp [execOp,Instr.field,run_underlying hu,hf,he,asAgg,part,pB hT,hag,yl hT]
    ·simp;omega
    ·have hj:j<row.size:=by have:=(List.getElem?_eq_some_iff.1 hp).1;simp at this;omega
     rw [List.getElem?_take_of_lt hj,List.getElem?_drop] at hp
     have:=hh _ _ hp
     have hlt:fd.offset+j<vs.size:=by rw [hl];exact (List.getElem?_eq_some_iff.1 hp).1
     have e:(vs.extract fd.offset (fd.offset+row.size)).getD j undef=vs.getD (fd.offset+j) undef:=by
      have h5:j<min (fd.offset+row.size) vs.size-fd.offset:=by omega
      simp [Array.getD_eq_getD_getElem?,Array.getElem?_extract,h5,hlt]
     rw [e];exact this
  |false=>
   rw [hag] at hy
   simp only [cond_false] at hy
   have:=hh _ _ hy
   have hlt:fd.offset<vs.size:=by rw [hl];exact (List.getElem?_eq_some_iff.1 hy).1
   refine bD hd ht h (v:=vs.getD fd.offset undef) ?_ this hr1
   simp [execOp,Instr.field,run_underlying hu,hf,he,asAgg,part,pB hT,hag,hlt,Array.getD_eq_getD_getElem?]
theorem oF {t:TypeId} {e:U.E} (X:Link V P) (h:V.isEl t e=true):P.underlying t=some (.slice (X.etid e))∧V.ety t=some e:=by
 unfold Env.isEl at h
 split at h
 ·rename_i e' he
  split at h
  ·rename_i hh
   subst hh
   refine ⟨?_,he⟩
   unfold Env.ety at he
   split at he
   ·rename_i row hrow;exact (X.ty t row hrow).elem _ he
   ·cases he
  ·cases h
 ·cases h
theorem pA (X:Link V P) (e:U.E) (w:World):(sizeOf (X.etid e)).run P w= .ok (X.esize e) w:=by
 obtain ⟨i,hi,_,hs,_⟩:=X.einfo e
 simp [sizeOf,typeInfo,hi,hs]
theorem Fv {t:TypeId} {e:U.E} (X:Link V P) (h:V.isEl t e=true) {b:Addr} {n cp:Nat} {k:IntKind} {i:Int} (h0:0≤i) (h1:i.toNat<n) (w:World):
  (Instr.indexAt t (.slice (some b) n cp) (.int k i)).run P w= .ok (.pointer (some (b.add (i.toNat*X.esize e)))) w:=by
 have hi:i<(n:Int):=by omega
 simp [Instr.indexAt,asIntOf,run_underlying (oF X h).1,h0,hi,pA X e]
theorem Rp {t:TypeId} {x i:Operand} (hd:a8 c.nt ⟨dst,.indexAddr t x i,ty,pos,after,gd⟩=true) (h:Sim X c a.tmps w σ g D) (hr:(bv V S ⟨dst,.indexAddr t x i,ty,pos,after,gd⟩).Rel K σ fp r τ gp)
  (ht:Then X c a r τ next Q):(⟨dst,.indexAddr t x i,ty,pos,after,gd⟩:Oper).wp P a w next Q:=by
 obtain ⟨p,fp1,hp,hr1⟩:=bK h hr
 obtain ⟨q,fp2,hq,hr2⟩:=bK h hr1
 split at hr2
 ·rename_i e l o k n
  cases hE:V.isEl t e with
  |false=>rw [hE] at hr2;exact hr2.elim
  |true=>
   rw [hE] at hr2
   obtain ⟨y,hy,hr3⟩:=hr2
   obtain ⟨h0,hy'⟩:=lQ hy
   have hq':=cv hq
   generalize he:a.eval x=ev at hp
   cases hp with
   |sl A m cp _ _ _ val hl hcp ho h1 h2=>
    obtain ⟨b,hA⟩: ∃b,A=some b:=by
     cases hcs:V.cells e y with
     |nil=>exact absurd hcs (rd X y)
     |cons p0 rest=>obtain ⟨b,hb,_⟩:=h1 _ y hy' 0 p0 (by rw [hcs];rfl);exact ⟨b,hb⟩
    subst hA
    have hlt:n.toNat<m:=by rw [←hl];exact (List.getElem?_eq_some_iff.1 hy').1
    refine bD hd ht h (v:= .pointer (some (b.add (n.toNat*X.esize e)))) ?_ ?_ hr3
    ·simp [execOp,he,hq',Fv X hE h0 hlt]
    ·have:=Rep.eptr (X:=X) (w:=w) (N:=c.N g D) (g:=g) e y 0 (b.add (n.toNat*X.esize e)) (val n.toNat) (fun k p hp=>by
      obtain ⟨b',hb',hc,hn⟩:=h1 _ y hy' k p hp
      cases hb'
      rw [Addr.add_add,Addr.add_block,Addr.add_off,Nat.add_assoc]
      exact ⟨hc,hn⟩) (fun k p hp=>h2 _ y hy' k p hp)
     rwa [Addr.add_zero] at this
 ·rename_i ii v k n
  obtain ⟨ob,fp3,hob,hver,hr3⟩:=jL hr2
  cases hE:V.isEl t ob.e with
  |false=>rw [hE] at hr3;exact hr3.elim
  |true=>
   rw [hE] at hr3
   obtain ⟨y,hy,hr4⟩:=hr3
   obtain ⟨h0,hy'⟩:=lQ hy
   have hq':=cv hq
   obtain ⟨val,hkap,hOb⟩:=h.objs ii ob hob
   obtain ⟨b,m,cp,hval,_⟩:=Dd hOb hy' (rd X y)
   obtain ⟨_,m',cp',hval',hlen,_⟩:=hOb.val
   rw [hval] at hval';cases hval'
   generalize he:a.eval x=ev at hp
   cases hp with
   |own _ _ _ ver e val' hk hle hev hs=>
    have hkk:=hk
    rw [hkap] at hk
    injection hk with hk
    injection hk with e1 hk
    injection hk with e2 e3
    subst e1;subst e2;subst e3
    have hev':=hev hver.symm
    subst hev'
    have hlt:n.toNat<m:=by rw [←hlen];exact (List.getElem?_eq_some_iff.1 hy').1
    refine bD hd ht h (v:= .pointer (some (b.add (n.toNat*X.esize ob.e)))) ?_ ?_ hr4
    ·simp [execOp,he,hq',hval,Fv X hE h0 hlt]
    ·exact .optr ii v n 0 _ ob.ver ob.e _ hkk hle (fun _=>⟨b,m,cp,hval,by rw [Nat.add_zero]⟩) ⟨_,rfl⟩
 ·rename_i id k n
  simp only [M.Rel] at hr2
  split at hr2
  case h_2=>exact hr2.elim
  rename_i cs hcs
  split at hr2
  case h_2=>exact hr2.elim
  rename_i m hm
  cases hml:Nat.beq m cs.length with
  |false=>rw [hml] at hr2;exact hr2.elim
  |true=>
   rw [hml] at hr2
   obtain ⟨hn,hr3⟩:=gi hr2
   have hq':=cv hq
   obtain ⟨e,qq,hu,hi,hs,hmr,_⟩: ∃ (e:TypeId) (q:TypeInfo),P.underlying t=some (.array m e)∧P.info? e=some q∧q.size=1∧True∧True:=by
    unfold Env.arr at hm
    split at hm
    ·rename_i row hrow
     obtain ⟨e,q,h1,h2,h3,_⟩:=(X.ty t row hrow).arr m hm
     exact ⟨e,q,h1,h2,h3,trivial,trivial⟩
    ·cases hm
   have hml':m=cs.length:=by simpa using hml
   generalize he:a.eval x=ev at hp
   cases hp with
   |ptr _ _ b hb=>
    refine bD hd ht h (v:= .pointer (some ⟨b,n.toNat,none⟩)) ?_ (.aptr id n b hb hn.1) hr3
    have hlt:n<(m:Int):=by omega
    simp [execOp,he,hq',Instr.indexAt,asIntOf,run_underlying hu,hn.1,hlt,sizeOf,typeInfo,hi,hs,Instr.sureAddr,Addr.add_lit']
 ·exact hr2.elim
theorem Rn {t:TypeId} {x i:Operand} (hd:a8 c.nt ⟨dst,.index t x i,ty,pos,after,gd⟩=true) (h:Sim X c a.tmps w σ g D) (hr:(bv V S ⟨dst,.index t x i,ty,pos,after,gd⟩).Rel K σ fp r τ gp)
  (ht:Then X c a r τ next Q):(⟨dst,.index t x i,ty,pos,after,gd⟩:Oper).wp P a w next Q:=by
 obtain ⟨p,fp1,hp,hr1⟩:=bK h hr
 obtain ⟨q,fp2,hq,hr2⟩:=bK h hr1
 split at hr2
 case h_2=>exact hr2.elim
 rename_i s k n
 cases hE:Nat.beq (V.eqk t) 4 with
 |false=>rw [hE] at hr2;exact hr2.elim
 |true=>
  rw [hE] at hr2
  obtain ⟨y,hy,hr3⟩:=hr2
  obtain ⟨h0,hy'⟩:=lQ hy
  have hq':=cv hq
  have hp':=tW hp
  have hu:P.underlying t=some .string:=by
   simp [Env.eqk] at hE
   split at hE
   ·rename_i row hrow;exact (X.ty t row hrow).isStr hE
   ·cases hE
  refine bD hd ht h (v:= .int .u8 y.toNat) ?_ (.int _ _) hr3
  have hy2:s[n.toNat]? =some y:=by
   have:n.toNat<s.data.size:=by have:=(List.getElem?_eq_some_iff.1 hy').1;simpa using this
   have hb:n.toNat<s.size:=this
   rw [getElem?_pos s n.toNat hb]
   have:=(List.getElem?_eq_some_iff.1 hy').2
   simp at this
   exact congrArg some this
  simp [execOp,hq',hp',Instr.index,asIntOf,run_underlying hu,h0,hy2]
end
end Go.Proofs.YtapmagaejigpnaaGreatDoor.PI
namespace Go.Proofs.YtapmagaejigpnaaGreatDoor.PI
open Go
set_option linter.unusedVariables false
set_option linter.unusedSimpArgs false
section
variable {U:Uni} {V:Env U} {P:Program} {X:Link V P} {K:bU U} {S:Side U} {c:Ctx} {a:Act} {w:World} {σ:St U} {g:Gh U} {D:Nat→Option Nat}
variable {next:Act→World→Prop} {Q:Exit→Act→World→Prop} {r:MR U} {τ:St U} {fp gp:List Loc} {N:aw}
variable {dst:Option Tmp} {ty:TypeId} {pos:String} {after:Array Edge} {gd:Option (Nat×Bool)}
theorem NY (off:Nat): ∀ (l:List Value) (s:Nat) (cells:Array Value),off+s+l.length≤cells.size→
  (l.zipIdx s).foldl (fun cs (x:Value×Nat)=>cs.setIfInBounds (off+x.2) x.1) cells=(cells.toList.take (off+s)++(l++cells.toList.drop (off+s+l.length))).toArray:=by
 intro l
 induction l with
 |nil=>intro s cells h;simp
 |cons v l ih=>
  intro s cells h
  simp only [List.zipIdx_cons,List.foldl_cons]
  rw [ih (s+1) _ (by simp at h ⊢;omega)]
  congr 1
  have e:=list_seg_step cells.toList (off+s) v l (by simp at h ⊢;omega)
  simp only [Array.toList_setIfInBounds,List.length_cons,List.append_assoc,Nat.add_assoc] at e ⊢
  exact e
theorem Bb (off:Nat) (vs cells:Array Value) (h:off+vs.size≤cells.size):
  vs.zipIdx.foldl (fun cs (x:Value×Nat)=>cs.setIfInBounds (off+x.2) x.1) cells=(cells.toList.take off++(vs.toList++cells.toList.drop (off+vs.toList.length))).toArray:=by
 rw [←Array.foldl_toList,Array.toList_zipIdx]
 have:=NY off vs.toList 0 cells (by simpa using h)
 simpa using this
theorem NR {t:TypeId} {bo:Nat→Option (Nat×Nat)} (hpl: ∀i off ft row,V.foff t i=some (off,ft)→V.ty ft=some row→bo i=some (off,row.size)):
  ∀ (parts:List (Nat×PV U)) (us:List (Nat×Value)) (cs cs':List (PV U)) (cells:Array Value),parts.map (·.1)=us.map (·.1)→
   (∀ (j:Nat) i p u,parts[j]? =some (i,p)→us[j]? =some (i,u)→Rep X w N g u p)→cells.size=cs.length→(∀ (j:Nat) p,cs[j]? =some p→Rep X w N g (cells.getD j undef) p)→
   fill V t cs parts=some cs'→ ∃cells',Instr.fill bo cells us=some cells'∧cells'.size=cs'.length∧(∀ (j:Nat) p,cs'[j]? =some p→Rep X w N g (cells'.getD j undef) p):=by
 intro parts
 induction parts with
 |nil=>
  intro us cs cs' cells hm _ hl hc hf
  cases us with
  |nil=>simp [fill] at hf;subst hf;exact ⟨cells,rfl,hl,hc⟩
  |cons=>simp at hm
 |cons ip parts ih=>
  intro us cs cs' cells hm hp hl hc hf
  obtain ⟨i,p⟩:=ip
  cases us with
  |nil=>simp at hm
  |cons iu us=>
   obtain ⟨i',u⟩:=iu
   simp only [List.map_cons,List.cons.injEq] at hm
   obtain ⟨rfl,hm⟩:=hm
   simp only [fill] at hf
   split at hf
   case h_2=>cases hf
   rename_i off ft ho
   cases hb:gz V ft p&&Nat.ble (off+p.cs.length) cs.length with
   |false=>rw [hb] at hf;cases hf
   |true=>
    rw [hb] at hf
    simp only [Bool.and_eq_true,Nat.ble_eq] at hb
    obtain ⟨hft,hle⟩:=hb
    simp only [cond_true] at hf
    obtain ⟨row,hrow,h1,h2,h3,_⟩:=sK hft (hp 0 i p u rfl rfl)
    have hplace:=hpl i off ft row ho hrow
    simp only [Instr.fill,hplace]
    rw [if_neg (by simp;omega),Bb off u.cells cells (by omega)]
    refine ih us _ cs' _ hm (fun j i p u h1 h2=>hp (j+1) i p u (by simpa using h1) (by simpa using h2)) ?_ (fun j q hq=> ?_) hf
    ·simp only [eT,List.size_toArray,List.length_append,List.length_take,List.length_drop,Array.length_toList];omega
    ·have:=Gg (X:=X) (w:=w) (N:=N) (g:=g) (cur:=cells.toList) (us:=u.cells.toList) (by simpa using hl) (by simp;omega) hle (fun j p hp=>by
       have:=hc j p hp
       simpa [Array.getD_eq_getD_getElem?,List.getD_eq_getElem?_getD] using this) (fun j p hp=>by
       have:=h3 j p hp
       simpa [Array.getD_eq_getD_getElem?,List.getD_eq_getElem?_getD] using this) j q hq
     simpa [Array.getD_eq_getD_getElem?,List.getD_eq_getElem?_getD] using this
theorem A8 (h:Sim X c a.tmps w σ g D) {ty':Nat→TypeId}: ∀ {parts:List (Nat×Operand)} {k:List (Nat×PV U)→M U} {fp:List Loc}
  (hr:(sF V ty' parts k).Rel K σ fp r τ gp),∃vs fp',vs.map (·.1)=parts.map (·.1)∧(∀ (j:Nat) i p u,vs[j]? =some (i,p)→(parts.map fun (i,x)=>(i,a.eval x))[j]? =some (i,u)→Rep X w (c.N g D) g u p)∧(k vs).Rel K σ fp' r τ gp:=by
 intro parts
 induction parts with
 |nil=>intro k fp hr;exact ⟨[],fp,rfl,by simp,hr⟩
 |cons ix parts ih=>
  intro k fp hr
  obtain ⟨i,x⟩:=ix
  obtain ⟨v,fp',hv,hr'⟩:=bK h hr
  obtain ⟨vs,fp'',hl,hvs,hk⟩:=ih hr'
  refine ⟨(i,v)::vs,fp'',by simp [hl],fun j i' p u hp hu=> ?_,hk⟩
  cases j with
  |zero=>simp at hp hu;obtain ⟨rfl,rfl⟩:=hp;obtain ⟨_,rfl⟩:=hu;exact hv
  |succ j=>exact hvs j i' p u (by simpa using hp) (by simpa using hu)
theorem QO {α β:Type} {f:α→Option β}: ∀ {l:List α} {ps:List β},l.mapM f=some ps→ ∀ (i:Nat) x,l[i]? =some x→ ∃y,f x=some y∧ps[i]? =some y:=by
 intro l
 induction l with
 |nil=>intro ps h i x hx;simp at hx
 |cons b l ih=>
  intro ps h i x hx
  simp only [List.mapM_cons,Option.bind_eq_bind,Option.pure_def] at h
  cases hb:f b with
  |none=>simp [hb] at h
  |some y=>
   cases hr:l.mapM f with
   |none=>simp [hb,hr] at h
   |some rest=>
    simp [hb,hr] at h
    subst h
    cases i with
    |zero=>simp at hx;subst hx;exact ⟨y,hb,rfl⟩
    |succ i=>exact ih hr i x (by simpa using hx)
theorem Rf {t:TypeId} {parts:Array (Nat×Operand)} (hd:a8 c.nt ⟨dst,.build t parts,ty,pos,after,gd⟩=true) (h:Sim X c a.tmps w σ g D) (hr:(bv V S ⟨dst,.build t parts,ty,pos,after,gd⟩).Rel K σ fp r τ gp)
  (ht:Then X c a r τ next Q):(⟨dst,.build t parts,ty,pos,after,gd⟩:Oper).wp P a w next Q:=by
 simp only [bv] at hr
 split at hr
 case h_2=>exact hr.elim
 rename_i z of0 hz hf0
 obtain ⟨vs,fp1,hl,hvs,hr1⟩:=A8 h hr
 split at hr1
 case h_2=>exact hr1.elim
 rename_i cs hcs
 unfold Env.zero at hz
 split at hz
 case h_2=>cases hz
 rename_i row hrow
 injection hz with hz
 subst hz
 have hT:=X.ty t row hrow
 obtain ⟨i,zv,hi,hs,hzero,hzs⟩:=hT.info
 obtain ⟨hzl,hrep⟩:=Ig X (w:=w) (N:=c.N g D) (g:=g) hzs
 have go: ∀bo,(∀i off ft row,V.foff t i=some (off,ft)→V.ty ft=some row→bo i=some (off,row.size))→(∀cells,Instr.fill bo zv.cells (parts.toList.map fun (i,x)=>(i,a.eval x))=some cells→P.built t (parts.map fun (i,x)=>(i,a.eval x)).toList=some cells)→
   (⟨dst,.build t parts,ty,pos,after,gd⟩:Oper).wp P a w next Q:=by
  intro bo hpl hb
  obtain ⟨cells,hf,hsz,hrp⟩:=NR (X:=X) (w:=w) (N:=c.N g D) (g:=g) hpl vs (parts.toList.map fun (i,x)=>(i,a.eval x)) row.zero cs zv.cells (by rw [hl];simp [Function.comp_def]) hvs (by simpa using hzl) (fun j p hp=>by
   have:=hrep j p hp
   simpa [Array.getD_eq_getD_getElem?,List.getD_eq_getElem?_getD] using this) hcs
  exact bD hd ht h (v:= .agg cells) (by simp only [execOp,Sem.run_bind,run_build w t _ cells (hb cells hf),Result.andThen_ok,Sem.run_pure]) (.agg cells cs hsz hrp) hr1
 have hfo: ∀i off ft,V.foff t i=some (off,ft)→row.fields[i]? =some (off,ft):=by
  intro i off ft hh
  simpa [Env.foff,hrow] using hh
 cases harr:row.arr with
 |none=>
  obtain ⟨off0,ft0⟩:=of0
  obtain ⟨fs,_,_,hu,_⟩:=hT.fields harr 0 off0 ft0 (hfo _ _ _ hf0)
  obtain ⟨ps,hps⟩:=hT.places fs hu
  refine go (ps.toArray[·]?) (fun i off ft row' ho hrow'=> ?_) (fun cells hf=> ?_)
  ·obtain ⟨fs',f,q,hu',hf,h1,h2,h3,_⟩:=hT.fields harr i off ft (hfo _ _ _ ho)
   rw [hu] at hu'
   injection hu' with hu'
   injection hu' with hu'
   subst hu'
   obtain ⟨y,hy,hy2⟩:=QO hps i f (by simpa using hf)
   obtain ⟨i2,z2,hi2,hs2,_⟩:=(X.ty ft row' hrow').info
   rw [h2,h3] at hy
   rw [h3] at hi2
   injection hi2 with hi2
   subst hi2
   simp at hy
   subst hy
   simp [hy2,h1,hs2]
  ·simp only [Program.built,hi,hu,hzero,hps]
   simpa using hf
 |some n=>
  obtain ⟨e,q,hu,hq,hq1,hn,hfl⟩:=hT.arr n harr
  refine go (fun i=>some (i*q.size,q.size)) (fun i off ft row' ho hrow'=> ?_) (fun cells hf=> ?_)
  ·obtain ⟨_,h2,h3⟩:=hfl i off ft (hfo _ _ _ ho)
   obtain ⟨i2,z2,hi2,hs2,_⟩:=(X.ty ft row' hrow').info
   rw [h2,hq] at hi2
   injection hi2 with hi2
   subst hi2
   simp [hs2.symm,hq1,h3]
  ·simp only [Program.built,hi,hu,hzero,hq]
   simpa using hf
end
end Go.Proofs.YtapmagaejigpnaaGreatDoor.PI
namespace Go.Proofs.YtapmagaejigpnaaGreatDoor.PI
open Go
set_option linter.unusedVariables false
set_option linter.unusedSimpArgs false
section
variable {U:Uni} {V:Env U} {P:Program} {X:Link V P} {K:bU U} {S:Side U} {c:Ctx} {a:Act} {w:World} {σ:St U} {g:Gh U} {D:Nat→Option Nat}
variable {next:Act→World→Prop} {Q:Exit→Act→World→Prop} {r:MR U} {τ:St U} {fp gp:List Loc} {N:aw}
variable {dst:Option Tmp} {ty:TypeId} {pos:String} {after:Array Edge} {gd:Option (Nat×Bool)}
theorem ND {tm:Array Value} {e:U.E}: ∀ (vs:List (Nat×PV U)) {n0:Nat} {σ:St U} {D:Nat→Option Nat} {k:List (U.El e)→M U} {fp:List Loc} (us:Nat→Value),Sim X c tm w σ g D→
  (∀ (j:Nat) i p,vs[j]? =some (i,p)→Rep X w (c.N g D) g (us j) p)→(sz V e n0 vs k).Rel K σ fp r τ gp→
  ∃l σ' D' fp',(k l).Rel K σ' fp' r τ gp∧Frozen X c tm w g σ D σ' D'∧l.length=vs.length∧(∀ (j:Nat) i p,vs[j]? =some (i,p)→i=n0+j)∧
   ∀ (j:Nat) x,l[j]? =some x→(us j).cells.size=X.esize e∧ ∀ (k:Nat) p,(V.cells e x)[k]? =some p→Rep X w (c.N g D') g ((us j).cells.getD k undef) p:=by
 intro vs
 induction vs with
 |nil=>intro n0 σ D k fp us h _ hr;exact ⟨[],_,_,_,hr,.refl h,rfl,by simp,by simp⟩
 |cons ip vs ih=>
  intro n0 σ D k fp us h hv hr
  obtain ⟨i,p⟩:=ip
  unfold sz at hr
  cases hi:Nat.beq i n0 with
  |false=>rw [hi] at hr;exact hr.elim
  |true=>
   rw [hi] at hr
   simp only [cond_true] at hr
   obtain ⟨q,σ1,D1,fp1,hr1,hF,hq,_⟩:=kg p h (hv 0 i p rfl) hr
   split at hr1
   case h_2=>exact hr1.elim
   rename_i x hx
   obtain ⟨l,σ2,D2,fp2,hr2,hF2,hl,hidx,hcells⟩:=ih (fun j=>us (j+1)) hF.sim (fun j i p hp=>hF.rep (hv (j+1) i p (by simpa using hp))) hr1
   obtain ⟨t1,t2,t3⟩:=X.toEl _ _ _ hx
   obtain ⟨s1,s2⟩:=E3 hq t2
   refine ⟨x::l,σ2,D2,fp2,hr2,hF.trans hF2,by simp [hl],fun j i' p' hp=> ?_,fun j y hy=> ?_⟩
   ·cases j with
    |zero=>simp at hp;obtain ⟨rfl,_⟩:=hp;simpa using hi
    |succ j=>have:=hidx j i' p' (by simpa using hp);omega
   ·cases j with
    |zero=>
     simp at hy;subst hy
     refine ⟨by omega,fun k p hp=>hF2.rep ?_⟩
     have hk:k<q.cs.length:=by
      have:=(List.getElem?_eq_some_iff.1 hp).1;rw [X.len] at this;omega
     obtain ⟨q',hq',hless⟩:=t3 k _ (List.getElem?_eq_getElem hk)
     rw [hp] at hq'
     injection hq' with hq'
     subst hq'
     exact (s2 k _ (List.getElem?_eq_getElem hk)).less hless
    |succ j=>exact hcells j y (by simpa using hy)
theorem NS (size:Nat): ∀ (us:List (Nat×Value)) (n0:Nat) (cells:Array Value),(n0+us.length)*size≤cells.size→(∀ (j:Nat) i u,us[j]? =some (i,u)→i=n0+j∧u.cells.size=size)→
  ∃cells',Instr.fill (fun i=>some (i*size,size)) cells us=some cells'∧cells'.size=cells.size∧(∀q,q<n0*size→cells'[q]? =cells[q]?)∧
   ∀ (j:Nat) i u,us[j]? =some (i,u)→ ∀k,k<size→cells'[(n0+j)*size+k]? =u.cells[k]? :=by
 intro us
 induction us with
 |nil=>intro n0 cells _ _;exact ⟨cells,rfl,rfl,fun _ _=>rfl,by simp⟩
 |cons iu us ih=>
  intro n0 cells hle hu
  obtain ⟨i,u⟩:=iu
  obtain ⟨hi,hs⟩:=hu 0 i u rfl
  have hi':i=n0:=by simpa using hi
  subst hi'
  have hb:(i+1)*size≤cells.size:=Nat.le_trans (Nat.mul_le_mul_right _ (by simp)) hle
  have hb':i*size+size≤cells.size:=by rw [Nat.add_mul,Nat.one_mul] at hb;exact hb
  simp only [Instr.fill]
  rw [if_neg (by simp;omega),Bb _ _ _ (by omega)]
  have hlen:(cells.toList.take (i*size)++(u.cells.toList++cells.toList.drop (i*size+u.cells.toList.length))).length=cells.size:=by
   rw [ug _ _ _ (by simp;omega)];simp
  obtain ⟨cells',hf,hsz,hold,hnew⟩:=ih (i+1) (cells.toList.take (i*size)++(u.cells.toList++cells.toList.drop (i*size+u.cells.toList.length))).toArray (by
    rw [List.size_toArray,hlen];refine Nat.le_trans (Nat.mul_le_mul_right _ ?_) hle;simp;omega) (fun j i' u' hj=>by
    have:=hu (j+1) i' u' (by simpa using hj);omega)
  refine ⟨cells',hf,by rw [hsz,List.size_toArray,hlen],fun q hq=> ?_,fun j i' u' hj k hk=> ?_⟩
  ·rw [hold q (by rw [Nat.add_mul,Nat.one_mul];omega),List.getElem?_toArray,m7 _ _ _ _ (by simp;omega),if_pos hq];simp
  ·cases j with
   |zero=>
    simp at hj
    obtain ⟨rfl,rfl⟩:=hj
    rw [Nat.add_zero,hold _ (by rw [Nat.add_mul,Nat.one_mul];omega),List.getElem?_toArray,m7 _ _ _ _ (by simp;omega),if_neg (by omega),if_pos (by simp;omega),
     show i*size+k-i*size=k by omega]
    simp
   |succ j=>
    have:=hnew j i' u' (by simpa using hj) k hk
    rw [show i+(j+1)=i+1+j by omega];exact this
theorem Rg {t:TypeId} {n:Nat} {parts:Array (Nat×Operand)} (hd:a8 c.nt ⟨dst,.buildSlice t n parts,ty,pos,after,gd⟩=true) (h:Sim X c a.tmps w σ g D) (hr:(bv V S ⟨dst,.buildSlice t n parts,ty,pos,after,gd⟩).Rel K σ fp r τ gp)
  (ht:Then X c a r τ next Q):(⟨dst,.buildSlice t n parts,ty,pos,after,gd⟩:Oper).wp P a w next Q:=by
 simp only [bv] at hr
 split at hr
 case h_2=>exact hr.elim
 rename_i e he
 obtain ⟨vs,fp1,hl,hvs,hr1⟩:=A8 h hr
 have hlen:vs.length=parts.toList.length:=by simpa using congrArg List.length hl
 obtain ⟨l,σ1,D1,fp2,hr2,hF,hll,hidx,hcells⟩:=ND (X:=X) (w:=w) (g:=g) vs (fun j=>((parts.toList.map fun (i,x)=>(i,a.eval x)).getD j (0,undef)).2) h (fun j i p hp=>by
  have hj:j<parts.toList.length:=by rw [←hlen];exact (List.getElem?_eq_some_iff.1 hp).1
  have hpi:(parts.toList.map fun (i,x)=>(i,a.eval x))[j]? =some (i,a.eval (parts.toList[j]).2):=by
   have h1:(vs.map (·.1))[j]? =some i:=by simp [hp]
   rw [hl] at h1
   simp only [List.getElem?_map,List.getElem?_eq_getElem hj,Option.map_some,Option.some.injEq] at h1 ⊢
   exact Prod.ext h1 rfl
  have:=hvs j i p _ hp hpi
  simp only [List.getD_eq_getElem?_getD,hpi]
  exact this) hr1
 cases hb:Nat.beq l.length n&&Nat.ble n 1000 with
 |false=>rw [hb] at hr2;exact hr2.elim
 |true=>
  rw [hb] at hr2
  simp only [Bool.and_eq_true,Nat.ble_eq] at hb
  obtain ⟨hln,hn⟩:=hb
  have hln':l.length=n:=by simpa using hln
  have hu:P.underlying t=some (.slice (X.etid e)):=by
   unfold Env.ety at he
   split at he
   ·rename_i row hrow;exact (X.ty t row hrow).elem _ he
   ·cases he
  obtain ⟨i,hi,hz,hsi,_⟩:=X.einfo e
  have hbig: ¬n*X.esize e>2^24:=by
   have h1:=X.small e
   have:n*X.esize e≤1000*1000:=Nat.mul_le_mul hn h1
   omega
  obtain ⟨z,hz1,hz2⟩: ∃z:Array Value,(n*X.esize e=0→z= #[])∧(n*X.esize e≠0→z=(X.ezero e).cells):=by
   by_cases h0:n*X.esize e=0
   ·exact ⟨#[],fun _=>rfl,fun h=>absurd h0 h⟩
   ·exact ⟨_,fun h=>absurd h h0,fun _=>rfl⟩
  obtain ⟨cells,hf,hsz,_,hnew⟩:=NS (X.esize e) (parts.toList.map fun (i,x)=>(i,a.eval x)) 0 ((Array.range (n*X.esize e)).map (z[· %z.size]!)) (by simp at hlen ⊢;rw [←hln',hll,hlen];exact Nat.le_refl _) (fun j i u hj=>by
   have hjl:j<vs.length:=by rw [hlen];have:=(List.getElem?_eq_some_iff.1 hj).1;simpa using this
   have h1:=hidx j _ _ (List.getElem?_eq_getElem hjl)
   have h2:(vs.map (·.1))[j]? =some (vs[j]).1:=by simp [hjl]
   rw [hl] at h2
   have h3:(parts.toList.map (·.1))[j]? =some i:=by
    have:=congrArg (Option.map (·.1)) hj
    simpa [Function.comp_def] using this
   rw [h3] at h2
   injection h2 with h2
   refine ⟨h2.trans h1, ?_⟩
   have hjl':j<l.length:=by omega
   have:=(hcells j _ (List.getElem?_eq_getElem hjl')).1
   simp only [List.getD_eq_getElem?_getD,hj] at this
   exact this)
  have hsz':cells.size=n*X.esize e:=by rw [hsz];simp
  have hs:=hF.sim.alloc (.cells cells (X.etid e))
  refine bD hd ht hs (v:= .slice (some ⟨w.heap.size,0,none⟩) n n) ?_ (.sl _ n n e l .full (fun j k=>cells.getD (j*X.esize e+k) undef) hln' (Nat.le_refl _) rfl (fun j x hx k p hp=> ?_) fun j x hx k p hp=> ?_) hr2
  ·by_cases h0:n*X.esize e=0
   ·have hz':=hz1 h0
    subst hz'
    simp only [execOp,Instr.buildSlice,Sem.run_bind,run_underlying hu,Result.andThen_ok,pA X e,if_neg hbig,if_pos h0,Sem.run_pure,Array.toList_map,hf,newRow,run_newObj,World.alloc_eq,Sem.run_ite]
   ·have hz':=hz2 h0
    subst hz'
    have hzv:(zeroValue (X.etid e)).run P w= .ok (X.ezero e) w:=by simp [zeroValue,typeInfo,hi,hz]
    simp only [execOp,Instr.buildSlice,Sem.run_bind,run_underlying hu,Result.andThen_ok,pA X e,if_neg hbig,if_neg h0,hzv,Sem.run_pure,Array.toList_map,hf,newRow,run_newObj,World.alloc_eq,Sem.run_ite]
  ·have hk:k<X.esize e:=by have:=(List.getElem?_eq_some_iff.1 hp).1;rw [X.len] at this;exact this
   have hj:j<n:=by rw [←hln'];exact (List.getElem?_eq_some_iff.1 hx).1
   have hb:j*X.esize e+k<cells.size:=by
    rw [hsz']
    have:(j+1)*X.esize e≤n*X.esize e:=Nat.mul_le_mul_right _ hj
    rw [Nat.add_mul,Nat.one_mul] at this;omega
   refine ⟨_,rfl, ?_, ?_⟩
   ·rw [Addr.add_lit',Nat.zero_add,World.cell?_alloc_new]
    simp [Array.getD_eq_getD_getElem?,hb]
   ·rintro (hn'|⟨id,hid⟩|⟨q,hq⟩)
    ·have h1:=(c.n0 _ _ hn').1
     have h2:=hF.sim.ext.size
     simp at h1;omega
    ·have:=(hF.sim.new id _ hid).1;simp at this
    ·have:=(hF.sim.dnew q _ hq).1;simp at this
  ·have hk:k<X.esize e:=by have:=(List.getElem?_eq_some_iff.1 hp).1;rw [X.len] at this;exact this
   have hjv:j<parts.toList.length:=by rw [←hlen,←hll];exact (List.getElem?_eq_some_iff.1 hx).1
   have hjp:(parts.toList.map fun (i,x)=>(i,a.eval x))[j]? =some ((parts.toList[j]).1,a.eval (parts.toList[j]).2):=by
    rw [List.getElem?_map,List.getElem?_eq_getElem hjv];rfl
   have h1:=hnew j _ _ hjp k hk
   obtain ⟨h2,h3⟩:=hcells j x hx
   have h4:=h3 k p hp
   simp only [List.getD_eq_getElem?_getD,hjp,Option.getD_some] at h2 h4
   have h5:cells.getD (j*X.esize e+k) undef=(a.eval (parts.toList[j]).2).cells.getD k undef:=by
    rw [Nat.zero_add] at h1
    simp only [Array.getD_eq_getD_getElem?,h1]
   rw [h5]
   exact h4.mono X (fun b o hlt _=>vn w _ b o hlt) (fun _ _ _ h=>h) (Gh.le.refl g)
end
end Go.Proofs.YtapmagaejigpnaaGreatDoor.PI
namespace Go.Proofs.YtapmagaejigpnaaGreatDoor.PI
open Go
set_option linter.unusedVariables false
set_option linter.unusedSimpArgs false
section
variable {U:Uni} {V:Env U} {P:Program} {X:Link V P} {K:bU U} {S:Side U} {c:Ctx} {a:Act} {w:World} {σ:St U} {g:Gh U} {D:Nat→Option Nat}
variable {next:Act→World→Prop} {Q:Exit→Act→World→Prop} {r:MR U} {τ:St U} {fp gp:List Loc} {N:aw}
variable {dst:Option Tmp} {ty:TypeId} {pos:String} {after:Array Edge} {gd:Option (Nat×Bool)}
theorem ua {A:Option Addr} {n cp:Nat} {e:U.E} {l:List (U.El e)} {o o':Own} {lo hi m:Nat} (h:Rep X w N g (.slice A n cp) (.sl e l o)) (h1:lo≤hi) (h2:hi≤l.length) (h3:hi≤m)
  (ho':o'= .none∨(o'= .full∧hi=m)):Rep X w N g (sliced A lo hi m (X.esize e)) (.sl e ((l.take hi).drop lo) o'):=by
 cases h with
 |sl _ _ _ _ _ _ val hl hc ho r1 r2=>
  unfold sliced
  have hget: ∀ (j:Nat) x,((l.take hi).drop lo)[j]? =some x→l[lo+j]? =some x∧lo+j<hi:=by
   intro j x hx
   rw [List.getElem?_drop] at hx
   have hlt:lo+j<hi:=by
    have:=(List.getElem?_eq_some_iff.1 hx).1
    simp at this;omega
   rw [List.getElem?_take_of_lt hlt] at hx
   exact ⟨hx,hlt⟩
  refine .sl _ _ _ e _ o' (fun j k=>val (lo+j) k) (by simp;omega) (by omega) (by rcases ho' with rfl|⟨rfl,rfl⟩<;>simp) (fun j x hx k p hp=> ?_) fun j x hx k p hp=> ?_
  ·obtain ⟨hx',hlt⟩:=hget j x hx
   obtain ⟨b,rfl,hcell,hn⟩:=r1 _ x hx' k p hp
   rw [if_neg (by omega)]
   refine ⟨b.add (lo*X.esize e),rfl, ?_, ?_⟩
   ·rw [Addr.add_add,←Nat.add_assoc,←Nat.add_mul];exact hcell
   ·rw [Addr.add_block,Addr.add_off,Nat.add_assoc,←Nat.add_assoc (lo*_),←Nat.add_mul];exact hn
  ·exact r2 _ x (hget j x hx).1 k p hp
theorem SW (X:Link V P) {t:TypeId} {e:U.E} (h:V.isEl t e=true) (x:Value) (lo hi mx:Option Value) (w:World):
  (Instr.sliceAt t x lo hi mx).run P w=(Instr.slice t x lo hi mx).run P w:=by
 simp [Instr.sliceAt,run_underlying (oF X h).1]
theorem A3 (X:Link V P) {t:TypeId} {e:U.E} (h:V.isEl t e=true):P.elem t=X.etid e∧P.underlying t=some (.slice (P.elem t)):=by
 have hu:=(oF X h).1
 have:P.elem t=X.etid e:=by simp [Program.elem,hu]
 exact ⟨this,by rw [this];exact hu⟩
theorem wc (h:Sim X c a.tmps w σ g D) {x:Option Operand} {t:TypeId} {k:Option (PV U)→M U} {fp:List Loc} (hr:(sE V x t k).Rel K σ fp r τ gp):
  ∃v fp',(k v).Rel K σ fp' r τ gp∧(v=none→x.map a.eval=none)∧(∀p,v=some p→ ∃u,x.map a.eval=some u∧Rep X w (c.N g D) g u p):=by
 cases x with
 |none=>exact ⟨none,fp,hr,fun _=>rfl,by simp⟩
 |some x=>
  obtain ⟨v,fp',hv,hr'⟩:=bK h hr
  exact ⟨some v,fp',hr',by simp,fun p hp=>by injection hp with hp;subst hp;exact ⟨_,rfl,hv⟩⟩
theorem RB {t:TypeId} {x:Operand} {lo hi mx:Option Operand} (hd:a8 c.nt ⟨dst,.slice t x lo hi mx,ty,pos,after,gd⟩=true) (h:Sim X c a.tmps w σ g D) (hr:(bv V S ⟨dst,.slice t x lo hi mx,ty,pos,after,gd⟩).Rel K σ fp r τ gp)
  (ht:Then X c a r τ next Q):(⟨dst,.slice t x lo hi mx,ty,pos,after,gd⟩:Oper).wp P a w next Q:=by
 obtain ⟨p,fp1,hp,hr1⟩:=bK h hr
 obtain ⟨l1,fp2,hr2,hl1,hl1'⟩:=wc h hr1
 obtain ⟨l2,fp3,hr3,hl2,hl2'⟩:=wc h hr2
 obtain ⟨l3,fp4,hr4,hl3,hl3'⟩:=wc h hr3
 unfold Gb at hr4
 obtain ⟨q,σ1,D1,fp5,hr5,hF,hq,_⟩:=kg p h hp hr4
 split at hr5
 case h_2=>exact hr5.elim
 rename_i e l o _hx
 cases hE:V.isEl t e with
 |false=>rw [hE] at hr5;exact hr5.elim
 |true=>
  rw [hE] at hr5
  simp only [cond_true] at hr5
  have hq':=hq
  generalize he:a.eval x=ev at hq
  cases hq with
  |sl A n cp _ _ _ val hl hc ho r1 r2=>
   rw [he] at hq'
   have hel:=(A3 X hE).1
   have hu:=(A3 X hE).2
   have hint: ∀ {y:Option Operand} {l:Option (PV U)} {k:IntKind} {i:Int},(∀p,l=some p→ ∃u,y.map a.eval=some u∧Rep X w (c.N g D) g u p)→l=some (.int k i)→y.map a.eval=some (.int k i):=by
    intro y l k i h1 h2
    obtain ⟨u,hu,hr⟩:=h1 _ h2
    rw [hu,cv hr]
   have run: ∀ {lo' hi' m':Nat},(Instr.slice t (.slice A n cp) (lo.map a.eval) (hi.map a.eval) (mx.map a.eval)).run P w=((sizeOf (P.elem t)).run P w).andThen (fun s w=> .ok (sliced A lo' hi' m' s) w)→
     (execOp a.eval ⟨dst,.slice t x lo hi mx,ty,pos,after,gd⟩).run P w= .ok (.value (sliced A lo' hi' m' (X.esize e))) w:=by
    intro lo' hi' m' hh
    rw [hel,pA X e] at hh
    simp only [execOp,Sem.run_bind,he,SW X hE,hh,Result.andThen_ok,Sem.run_pure]
   split at hr5
   ·obtain ⟨hm,hr6⟩:=gi hr5
    obtain ⟨hb,hr7⟩:=gi hr6
    have e1:=hl1 rfl
    have e2:=hint hl2' rfl
    have e3:=hint hl3' rfl
    refine bD hd ht hF.sim (run (by rw [e1,e2,e3];exact run_slice_hm w t A n cp hu _ _ _ _ hb.1 (by omega) (by omega))) ?_ hr7
    refine ua (X:=X) (lo:=0) (o':= .full) hq' (Nat.zero_le _) ?_ ?_ (.inr ⟨rfl, ?_⟩)<;>omega
   ·obtain ⟨hb,hr7⟩:=gi hr5
    have e1:=hl1 rfl
    have e2:=hint hl2' rfl
    have e3:=hl3 rfl
    refine bD hd ht hF.sim (run (by rw [e1,e2,e3];exact run_slice_h w t A n cp hu _ _ hb.1 (by omega))) ?_ hr7
    refine ua (X:=X) (lo:=0) (o':= .none) hq' (Nat.zero_le _) ?_ ?_ (.inl rfl)<;>omega
   ·obtain ⟨hb,hr7⟩:=gi hr5
    have e1:=hint hl1' rfl
    have e2:=hl2 rfl
    have e3:=hl3 rfl
    refine bD hd ht hF.sim (run (by rw [e1,e2,e3];exact run_slice_l w t A n cp hu _ _ hb.1 (by omega))) ?_ hr7
    rw [show l.drop _=(l.take n).drop _ by rw [←hl,List.take_length]]
    refine ua (X:=X) (o':= .none) hq' ?_ ?_ ?_ (.inl rfl)<;>omega
   ·obtain ⟨hb,hr7⟩:=gi hr5
    have e1:=hint hl1' rfl
    have e2:=hint hl2' rfl
    have e3:=hl3 rfl
    refine bD hd ht hF.sim (run (by rw [e1,e2,e3];exact run_slice_lh w t A n cp hu _ _ _ _ hb.1 hb.2.1 (by omega))) ?_ hr7
    refine ua (X:=X) (o':= .none) hq' ?_ ?_ ?_ (.inl rfl)<;>omega
   ·exact hr5.elim
def SlAt (X:Link V P) (w:World) (N:aw) (g:Gh U) (val:Value) (e:U.E) (l:List (U.El e)):Prop:=
 ∃A n cp,val= .slice A n cp∧l.length=n∧n≤cp∧ ∀ (j:Nat) x,l[j]? =some x→ ∀ (k:Nat) p,(V.cells e x)[k]? =some p→ ∃b v,A=some b∧w.cell? (b.add (j*X.esize e+k))=some v∧Rep X w N g v p
theorem HZ {tm:Array Value} (h:Sim X c tm w σ g D) {v:Value} {y:PV U} {k:(e:U.E)→List (U.El e)→M U} (hv:Rep X w (c.N g D) g v y) (hr:(ut y k).Rel K σ fp r τ gp):
  ∃e l fp',(k e l).Rel K σ fp' r τ gp∧SlAt X w (c.N g D) g v e l:=by
 unfold ut at hr
 split at hr
 ·rename_i e l o
  cases hv with
  |sl A n cp _ _ _ val hl hc ho r1 r2=>
   exact ⟨e,l,_,hr,A,n,cp,rfl,hl,hc,fun j x hx k p hp=>by
    obtain ⟨b,hA,hcell,_⟩:=r1 j x hx k p hp
    exact ⟨b,_,hA,hcell,r2 j x hx k p hp⟩⟩
 ·rename_i i ver
  obtain ⟨ob,fp',hob,hver,hr2⟩:=jL hr
  obtain ⟨val,hkap,hO⟩:=h.objs i ob hob
  refine ⟨_,_,_,hr2, ?_⟩
  cases hv with
  |own _ _ _ ver' e val' hk hle he hs=>
   rw [hkap] at hk
   injection hk with hk
   injection hk with e1 hk
   injection hk with e2 e3
   subst e1;subst e2;subst e3
   have:=he hver.symm
   subst this
   obtain ⟨A,n,cp,hval,hl,hc,hh,_⟩:=hO.val
   exact ⟨A,n,cp,hval,hl,hc,fun j x hx k p hp=>by
    obtain ⟨b,v,h1,h2,h3,_⟩:=hh j x hx k p hp
    exact ⟨b,v,h1,h2,h3⟩⟩
 ·exact hr.elim
theorem NI {xs:List Operand} {vs:List (PV U)} (hl:vs.length=xs.length): ∀ {p q:PV U},vs=[p,q]→ ∃x y,xs=[x,y]:=by
 intro p q h
 subst h
 match xs,hl with
 |[x,y],_=>exact ⟨x,y,rfl⟩
theorem NH {xs:List Operand} {vs:List (PV U)} (hl:vs.length=xs.length): ∀ {p:PV U},vs=[p]→ ∃x,xs=[x]:=by
 intro p h
 subst h
 match xs,hl with
 |[x],_=>exact ⟨x,rfl⟩
end
end Go.Proofs.YtapmagaejigpnaaGreatDoor.PI
namespace Go.Proofs.YtapmagaejigpnaaGreatDoor.PI
open Go
set_option linter.unusedVariables false
set_option linter.unusedSimpArgs false
section
variable {U:Uni} {V:Env U} {P:Program} {X:Link V P} {K:bU U} {S:Side U} {c:Ctx} {tm:Array Value} {a:Act} {w:World} {σ:St U} {g:Gh U} {D:Nat→Option Nat}
variable {next:Act→World→Prop} {Q:Exit→Act→World→Prop} {r:MR U} {τ:St U} {fp gp:List Loc} {N:aw}
variable {dst:Option Tmp} {ty:TypeId} {pos:String} {after:Array Edge} {gd:Option (Nat×Bool)}
def Gh.newOb (g:Gh U) (d nv:Nat) (e:U.E) (val:Value) (src:Option Nat) (sv:Nat) (se:U.E):Gh U:=
 {g with κ:=fun j=>if j=d then some (nv,e,val) else if src=some j then some (sv,se,.slice none 0 0) else g.κ j}
def eM (D:Nat→Option Nat) (d:Nat) (src:Option Nat) (Dn:Option Nat):Nat→Option Nat:=fun j=>if j=d then Dn else if src=some j then none else D j
structure NewOb (w w':World) (σ:St U) (D:Nat→Option Nat) (d nv:Nat) (src:Option Nat) (sv:Nat) (Dn:Option Nat):Prop where
 os:w'.os=w.os
 tape:w'.tape=w.tape
 output:w'.output=w.output
 size:w.heap.size≤w'.heap.size
 block: ∀b,b<w.heap.size→(∀i,src=some i→D i≠some b)→w'.heap[b]? =w.heap[b]?
 nver: ∀ob,σ.o d=some ob→ob.ver<nv
 sver: ∀i,src=some i→(∀ob,σ.o i=some ob→ob.ver<sv)∧ ∃ob,σ.o i=some ob
 Dn: ∀b,Dn=some b→(∃i,src=some i∧D i=some b)∨(w.heap.size≤b∧b<w'.heap.size)
section
variable {w':World} {d nv:Nat} {e se:U.E} {val:Value} {src:Option Nat} {sv:Nat} {Dn:Option Nat}
theorem NewOb.le (hn:NewOb w w' σ D d nv src sv Dn) (h:Sim X c tm w σ g D):g.le (g.newOb d nv e val src sv se):=by
 refine ⟨fun _ _ h=>h,fun i ver e0 v0 hk=> ?_⟩
 have hold: ∃ob,σ.o i=some ob∧ob.ver=ver:=by
  cases ho:σ.o i with
  |none=>have:=(h.nobj i ho).1;rw [hk] at this;cases this
  |some ob=>
   obtain ⟨v1,h1,_⟩:=h.objs i ob ho
   rw [hk] at h1
   injection h1 with h1
   injection h1 with h1 _
   exact ⟨ob,rfl,h1.symm⟩
 obtain ⟨ob,ho,hv⟩:=hold
 simp only [Gh.newOb]
 by_cases hid:i=d
 ·subst hid
  have:=hn.nver ob ho
  exact ⟨_,_,_,if_pos rfl,by omega,fun e=>by omega⟩
 ·rw [if_neg hid]
  by_cases his:src=some i
  ·have:=(hn.sver i his).1 ob ho
   exact ⟨_,_,_,if_pos his,by omega,fun e=>by omega⟩
  ·exact ⟨_,_,_,(if_neg his).trans hk,Nat.le_refl _,fun _=>⟨rfl,rfl⟩⟩
theorem NewOb.forb (hn:NewOb w w' σ D d nv src sv Dn): ∀b o,b<w.heap.size→(c.N (g.newOb d nv e val src sv se) (eM D d src Dn)) b o→(c.N g D) b o:=by
 rintro b o hlt (h|⟨id,hid⟩|⟨j,hj⟩)
 ·exact .inl h
 ·exact .inr (.inl ⟨id,hid⟩)
 ·simp only [eM] at hj
  split at hj
  ·rcases hn.Dn b hj with ⟨i,_,hi⟩|hk
   ·exact .inr (.inr ⟨i,hi⟩)
   ·omega
  ·split at hj
   ·cases hj
   ·exact .inr (.inr ⟨j,hj⟩)
theorem NewOb.cell (hn:NewOb w w' σ D d nv src sv Dn): ∀b o,b<w.heap.size→ ¬ (c.N g D) b o→w'.cell? ⟨b,o,none⟩=w.cell? ⟨b,o,none⟩:=fun b o hlt h=>by
 unfold World.cell?
 rw [hn.block b hlt fun i _ hi=>h (.inr (.inr ⟨i,hi⟩))]
theorem NewOb.rep (hn:NewOb w w' σ D d nv src sv Dn) (h:Sim X c tm w σ g D) {v:Value} {p:PV U} (hr:Rep X w (c.N g D) g v p):
  Rep X w' (c.N (g.newOb d nv e val src sv se) (eM D d src Dn)) (g.newOb d nv e val src sv se) v p:=
 hr.mono X hn.cell hn.forb (hn.le h)
structure NewSt (σ σ':St U) (d nv:Nat) (e:U.E) (l:List (U.El e)) (u:Use) (src:Option Nat) (sv:Nat) (se:U.E):Prop where
 r: ∀n,σ'.r n=σ.r n
 b: ∀n,σ'.b n=σ.b n
 od:σ'.o d=some ⟨nv,e,l⟩
 ud:σ'.u d=u
 os: ∀i,i≠d→src=some i→σ'.o i=some ⟨sv,se,[]⟩∧σ'.u i= .read
 oo: ∀i,i≠d→src≠some i→σ'.o i=σ.o i∧σ'.u i=σ.u i
theorem Sim.newOb (h:Sim X c tm w σ g D) (hn:NewOb w w' σ D d nv src sv Dn) {σ':St U} {l:List (U.El e)} {u:Use} (hs:NewSt σ σ' d nv e l u src sv se)
  (hob:ObOK X w' (c.N (g.newOb d nv e val src sv se) (eM D d src Dn)) (g.newOb d nv e val src sv se) e l val u Dn):
  Sim X c tm w' σ' (g.newOb d nv e val src sv se) (eM D d src Dn):=by
 refine h.objsTurn (fun j=>j=d∨src=some j) hn.os hn.tape hn.output hn.size (fun b hb hne=>hn.block b hb fun i hi=>hne i (.inr hi)) hs.r hs.b rfl (hn.le h)
  (fun j b hj=> ?_) (fun j j' b hch hj hj'=> ?_) (fun j hj=> ?_) (fun j ob hj ho=> ?_) (fun j hj ho=> ?_)
 ·simp only [eM] at hj
  split at hj
  ·rcases hn.Dn b hj with ⟨i,h1,h2⟩|h1
   ·exact .inr (.inl ⟨i,.inr h1,h2⟩)
   ·exact .inr (.inr h1)
  ·split at hj
   ·cases hj
   ·rename_i h1 h2;exact .inl ⟨by rintro (h|h)<;>contradiction,hj⟩
 ·simp only [eM] at hj hj'
  split at hj
  ·rename_i hjd
   subst hjd
   by_cases h1:j'=j
   ·exact h1.symm
   ·rw [if_neg h1] at hj'
    split at hj'
    ·cases hj'
    ·rename_i h2
     rcases hn.Dn b hj with ⟨i,h3,h4⟩|h3
     ·have:=h.dinj _ _ _ h4 hj';subst this;exact absurd h3 h2
     ·have:=(h.dnew _ _ hj').1;omega
  ·split at hj
   ·cases hj
   ·rename_i h1 h2;rcases hch with h|h<;>contradiction
 ·have h1:j≠d:=fun e=>hj (.inl e)
  have h2:src≠some j:=fun e=>hj (.inr e)
  obtain ⟨h3,h4⟩:=hs.oo j h1 h2
  exact ⟨h3,h4,by simp [eM,h1,h2],by simp [Gh.newOb,h1,h2]⟩
 ·by_cases hjd:j=d
  ·subst hjd
   rw [hs.od] at ho
   injection ho with ho
   subst ho
   refine ⟨val,by simp [Gh.newOb], ?_⟩
   rw [hs.ud,show eM D j src Dn j=Dn by simp [eM]]
   exact hob
  ·have hsrc:src=some j:=hj.resolve_left hjd
   obtain ⟨h1,h2⟩:=hs.os j hjd hsrc
   rw [h1] at ho
   injection ho with ho
   subst ho
   refine ⟨.slice none 0 0,by simp [Gh.newOb,hjd,hsrc], ?_⟩
   rw [h2,show eM D d src Dn j=none by simp [eM,hjd,hsrc]]
   exact ⟨none,0,0,rfl,rfl,Nat.le_refl _,by simp,by simp⟩
 ·by_cases hjd:j=d
  ·subst hjd;rw [hs.od] at ho;cases ho
  ·have hsrc:src=some j:=hj.resolve_left hjd
   rw [(hs.os j hjd hsrc).1] at ho;cases ho
theorem o9 (hst: ∃A n cp,val= .slice A n cp):Rep X w N (g.newOb d nv e val src sv se) val (.own d nv):=
 .own d nv val nv e val (by simp [Gh.newOb]) (Nat.le_refl _) (fun _=>rfl) hst
end
def bF (w:World) (A:Option Addr) (n:Nat):List Value:=match A with|some b=>(List.range n).map fun q=>(w.cell? (b.add q)).getD undef|none=>[]
theorem Oj {size q n:Nat} (hs:0<size) (h:q<n*size):q/size<n:=(Nat.div_lt_iff_lt_mul hs).2 h
theorem SlAt.cell {e:U.E} {l:List (U.El e)} {b:Addr} {n cp:Nat} (h:SlAt X w N g (.slice (some b) n cp) e l) {q:Nat} (hq:q<n*X.esize e):
  ∃x p v,l[q/X.esize e]? =some x∧(V.cells e x)[q%X.esize e]? =some p∧w.cell? (b.add q)=some v∧Rep X w N g v p:=by
 obtain ⟨A,n',cp',hv,hl,hc,hh⟩:=h
 injection hv with h1 h2 h3
 subst h1;subst h2;subst h3
 have hp:=X.epos e
 have hlt:q/X.esize e<l.length:=by rw [hl];exact Oj hp hq
 have hk:q%X.esize e<(V.cells e l[q/X.esize e]).length:=by rw [X.len];exact Nat.mod_lt _ hp
 obtain ⟨b',v,hb,hcell,hr⟩:=hh _ _ (List.getElem?_eq_getElem hlt) _ _ (List.getElem?_eq_getElem hk)
 cases hb
 rw [Nat.mul_comm,Nat.div_add_mod] at hcell
 exact ⟨_,_,v,List.getElem?_eq_getElem hlt,List.getElem?_eq_getElem hk,hcell,hr⟩
theorem SlAt.row {e:U.E} {l:List (U.El e)} {A:Option Addr} {n cp:Nat} (h:SlAt X w N g (.slice A n cp) e l):(bF w A (n*X.esize e)).length=n*X.esize e∧l.length=n∧n≤cp∧(A=none→n=0)∧
  (∀ (q:Nat) v,(bF w A (n*X.esize e))[q]? =some v→ ∀b,A=some b→w.cell? (b.add q)=some v)∧
  (∀ (j:Nat) x,l[j]? =some x→ ∀ (k:Nat) p,(V.cells e x)[k]? =some p→ ∃v,(bF w A (n*X.esize e))[j*X.esize e+k]? =some v∧Rep X w N g v p)∧(∀v∈bF w A (n*X.esize e),v.oneCell'=true):=by
 have h0:=h
 obtain ⟨A',n',cp',hv,hl,hc,hh⟩:=h
 injection hv with h1 h2 h3
 subst h1;subst h2;subst h3
 have hnone:A=none→n=0:=by
  intro hA
  cases l with
  |nil=>exact hl.symm
  |cons x r=>
   cases hcs:V.cells e x with
   |nil=>exact absurd hcs (rd X x)
   |cons p0 rest=>obtain ⟨b,_,hb,_⟩:=hh 0 x rfl 0 p0 (by rw [hcs];rfl);rw [hA] at hb;cases hb
 refine ⟨?_,hl,hc,hnone,fun q v hq b hb=> ?_,fun j x hx k p hp=> ?_,fun v hv=> ?_⟩
 ·cases A with
  |none=>rw [hnone rfl];simp [bF]
  |some b=>simp [bF]
 ·subst hb
  have hq2:q<n*X.esize e:=by have:=(List.getElem?_eq_some_iff.1 hq).1;simpa [bF] using this
  obtain ⟨x,p,v',_,_,hcell,_⟩:=h0.cell hq2
  simp only [bF,List.getElem?_map,List.getElem?_range hq2,Option.map_some,hcell,Option.getD_some,Option.some.injEq] at hq
  rw [←hq];exact hcell
 ·obtain ⟨b,v,hA,hcell,hr⟩:=hh j x hx k p hp
  subst hA
  have hj:j<n:=by rw [←hl];exact (List.getElem?_eq_some_iff.1 hx).1
  have hk:k<X.esize e:=by have:=(List.getElem?_eq_some_iff.1 hp).1;rw [X.len] at this;exact this
  have hb:j*X.esize e+k<n*X.esize e:=by
   have:(j+1)*X.esize e≤n*X.esize e:=Nat.mul_le_mul_right _ hj
   rw [Nat.add_mul,Nat.one_mul] at this;omega
  exact ⟨v,by simp [bF,hb,hcell],hr⟩
 ·cases A with
  |none=>simp [bF] at hv
  |some b=>
   simp only [bF,List.mem_map,List.mem_range] at hv
   obtain ⟨q,hq,rfl⟩:=hv
   obtain ⟨x,p,v',_,hp,hcell,hr⟩:=h0.cell hq
   rw [hcell]
   exact E4 hr (List.all_eq_true.1 (X.ecell e x) p (List.mem_of_getElem? hp))
end
end Go.Proofs.YtapmagaejigpnaaGreatDoor.PI
namespace Go.Proofs.YtapmagaejigpnaaGreatDoor.PI
open Go
set_option linter.unusedVariables false
set_option linter.unusedSimpArgs false
section
variable {U:Uni} {V:Env U} {P:Program} {X:Link V P} {K:bU U} {S:Side U} {c:Ctx} {tm:Array Value} {a:Act} {w:World} {σ:St U} {g:Gh U} {D:Nat→Option Nat}
variable {next:Act→World→Prop} {Q:Exit→Act→World→Prop} {r:MR U} {τ:St U} {fp gp:List Loc} {N:aw}
variable {dst:Option Tmp} {ty:TypeId} {pos:String} {after:Array Edge} {gd:Option (Nat×Bool)}
theorem Fi {t t':TypeId} {e:U.E} (hu:P.underlying t=some (.slice (X.etid e))) (A B:Option Addr) (n cp c2:Nat) (hc:n≤cp) (w:World):
  (Builtin.append_ #[t,t] t' #[.slice A n cp,.slice B 0 c2]).run P w= .ok (.slice A n cp) w:=by
 have hf:(Builtin.firstCells (X.esize e) 0 (.slice B 0 c2)).run P w= .ok #[] w:=by
  cases B<;>simp [Builtin.firstCells,loadCells,loadCellsFrom]
 cases A<;>simp [Builtin.append_,run_underlying hu,pA X e,Builtin.lenOf,hc,hf,storeCells]
theorem Fh {t t':TypeId} {e:U.E} (hu:P.underlying t=some (.slice (X.etid e))) {A B:Option Addr} {n cp m c2:Nat} {l l':List (U.El e)} {N N2:aw} {g g2:Gh U} (h1:SlAt X w N g (.slice A n cp) e l) (h2:SlAt X w N2 g2 (.slice B m c2) e l')
  (hcp:A=none→cp=0) (hm:cp<n+m) (hroom:n+m≤V.bound e):
  ∃cells cap,(Builtin.append_ #[t,t] t' #[.slice A n cp,.slice B m c2]).run P w= .ok (.slice (some ⟨w.heap.size,0,none⟩) (n+m) cap) (w.drew.alloc (.cells cells (X.etid e)))∧n+m≤cap∧cap≤maxLen∧
   cells.size=cap*X.esize e∧cells.toList.take ((n+m)*X.esize e)=bF w A (n*X.esize e)++bF w B (m*X.esize e):=by
 obtain ⟨r1,r2,r3,r4,r5,_,r7⟩:=h1.row
 obtain ⟨s1,s2,s3,s4,s5,_,s7⟩:=h2.row
 obtain ⟨hby,hmax⟩:=X.broom e _ hroom
 obtain ⟨i,hi,hz,hsi,hbi⟩:=X.einfo e
 have hB: ∃b,B=some b:=by
  cases B with
  |none=>have:=s4 rfl;omega
  |some b=>exact ⟨b,rfl⟩
 obtain ⟨b,rfl⟩:=hB
 have h63:n+m≤9223372036854775807:=by simp only [maxLen] at hmax;omega
 have hcells: ∀ (cap:Nat),n+m≤cap→((bF w A (n*X.esize e)).toArray++(bF w (some b) (m*X.esize e)).toArray++Builtin.zeroCells (X.ezero e).cells (cap-(n+m))).size=cap*X.esize e∧
   ((bF w A (n*X.esize e)).toArray++(bF w (some b) (m*X.esize e)).toArray++Builtin.zeroCells (X.ezero e).cells (cap-(n+m))).toList.take ((n+m)*X.esize e)=bF w A (n*X.esize e)++bF w (some b) (m*X.esize e):=by
  intro cap hcap
  constructor
  ·simp only [Array.size_append,List.size_toArray,size_zeroCells,X.zsize,r1,s1,←Nat.add_mul];congr 1;omega
  ·simp only [Array.toList_append,List.append_assoc]
   rw [←List.append_assoc,show (n+m)*X.esize e=(bF w A (n*X.esize e)++bF w (some b) (m*X.esize e)).length by rw [List.length_append,r1,s1,Nat.add_mul]]
   exact List.take_left
 cases A with
 |none=>
  have hn:=r4 rfl
  have hc0:=hcp rfl
  subst hn;subst hc0
  have hr:=run_append_nil (P:=P) w t t' (X.etid e) i (X.ezero e) hu hi hz b m c2 (bF w (some b) (m*X.esize e)) (by rw [s1,hsi]) (fun j v hj=>s5 j v hj b rfl) (by omega) (by omega) (by rw [hbi];simp only [Nat.zero_add] at hby;omega)
  have hge:=grownCap_ge w m 0 (X.etid e)
  have:=hcells (grownCap w m 0 (X.etid e)) (by omega)
  refine ⟨_,_, ?_,by omega,grownCap_le_maxLen w _ _ _ (by omega),this.1,this.2⟩
  rw [Nat.zero_add,hr]
  simp [bF]
 |some a0=>
  have hr:=run_append_grow (P:=P) w t t' (X.etid e) i (X.ezero e) hu hi hz a0 n cp (bF w (some a0) (n*X.esize e)) (by rw [r1,hsi]) (fun j v hj=>r5 j v hj a0 rfl) b m c2 (bF w (some b) (m*X.esize e)) (by rw [s1,hsi]) (fun j v hj=>s5 j v hj b rfl)
   hm (by omega) (growslice_fits hm (by rw [hbi];exact hby))
  have hge:=grownCap_ge w (n+m) cp (X.etid e)
  have:=hcells (grownCap w (n+m) cp (X.etid e)) hge
  exact ⟨_,_,hr,hge,grownCap_le_maxLen w _ _ _ hmax,this.1,this.2⟩
theorem w9 {w':World} {N':aw} {g':Gh U} {e:U.E} {l l':List (U.El e)} {A B:Option Addr} {n cp m c2:Nat} (h1:SlAt X w N g (.slice A n cp) e l) (h2:SlAt X w N g (.slice B m c2) e l')
  (hmono: ∀ {v:Value} {p:PV U},Rep X w N g v p→Rep X w' N' g' v p) {nb cap:Nat} {cur:Array Value} (hb:w'.heap[nb]? =some (.cells cur (X.etid e) (0,0))) (hs:cur.size=cap*X.esize e) (hmax:cap≤maxLen) (hbd:n+m≤V.bound e) (hle:n+m≤cap)
  (htake:cur.toList.take ((n+m)*X.esize e)=bF w A (n*X.esize e)++bF w B (m*X.esize e)) {u:Use} (hu:u≠ .read):
  ObOK X w' N' g' e (l++l') (.slice (some ⟨nb,0,none⟩) (n+m) cap) u (some nb):=by
 obtain ⟨r1,r2,r3,r4,r5,r6,r7⟩:=h1.row
 obtain ⟨s1,s2,s3,s4,s5,s6,s7⟩:=h2.row
 refine ⟨_,_,_,rfl,by simp [r2,s2],hle,fun j x hx k p hp=> ?_,hu,cur,rfl,hb,hs,hmax,hbd⟩
 have hk:k<X.esize e:=by have:=(List.getElem?_eq_some_iff.1 hp).1;rw [X.len] at this;exact this
 have hj:j<n+m:=by have:=(List.getElem?_eq_some_iff.1 hx).1;simp [r2,s2] at this;exact this
 have hjk:j*X.esize e+k<(n+m)*X.esize e:=by
  have:(j+1)*X.esize e≤(n+m)*X.esize e:=Nat.mul_le_mul_right _ hj
  rw [Nat.add_mul,Nat.one_mul] at this;omega
 have hcur:cur.toList[j*X.esize e+k]? =(bF w A (n*X.esize e)++bF w B (m*X.esize e))[j*X.esize e+k]? :=by
  rw [←htake,List.getElem?_take_of_lt hjk]
 obtain ⟨v,hv,hr⟩: ∃v,(bF w A (n*X.esize e)++bF w B (m*X.esize e))[j*X.esize e+k]? =some v∧Rep X w N g v p:=by
  by_cases hjn:j<n
  ·rw [List.getElem?_append_left (by rw [r2];exact hjn)] at hx
   obtain ⟨v,hv,hr⟩:=r6 j x hx k p hp
   have:j*X.esize e+k<n*X.esize e:=by
    have:(j+1)*X.esize e≤n*X.esize e:=Nat.mul_le_mul_right _ hjn
    rw [Nat.add_mul,Nat.one_mul] at this;omega
   exact ⟨v,by rw [List.getElem?_append_left (by rw [r1];exact this)];exact hv,hr⟩
  ·rw [List.getElem?_append_right (by omega),r2] at hx
   obtain ⟨v,hv,hr⟩:=s6 (j-n) x hx k p hp
   have e1:j*X.esize e=(j-n)*X.esize e+n*X.esize e:=by rw [←Nat.add_mul];congr 1;omega
   refine ⟨v, ?_,hr⟩
   rw [List.getElem?_append_right (by rw [r1];omega),r1,show j*X.esize e+k-n*X.esize e=(j-n)*X.esize e+k by omega]
   exact hv
 refine ⟨⟨nb,0,none⟩,v,rfl, ?_,hmono hr,by simp⟩
 rw [Addr.add_lit',Nat.zero_add]
 unfold World.cell?
 rw [hb]
 rw [hv] at hcur
 simpa using hcur
theorem yb {most n m:Nat} {k:Unit→M U} (hr:(M.ask (aP most n m) k).Rel K σ fp r τ gp):n+m≤most∧(k ()).Rel K σ fp r τ gp:=by
 obtain ⟨x,hx,hr⟩:=hr
 unfold aP at hx
 split at hx
 ·exact ⟨‹_›,hr⟩
 ·cases hx
theorem C8 {d:Nat} {u:Use} {e:U.E} {l:List (U.El e)} (hr:(kH d u e l).Rel K σ fp r τ gp):
  ∃nv,(∀ob,σ.o d=some ob→ob.ver<nv)∧r= .done∧τ=((σ.setO d ⟨nv,e,l⟩).setU d u).setR d (.own d nv):=by
 unfold kH at hr
 simp only [M.Rel] at hr
 split at hr
 ·rename_i ob hob
  obtain ⟨h1,h2,_⟩:=hr
  exact ⟨ob.ver+1,fun ob' h=>by rw [hob] at h;injection h with h;subst h;omega,h1,h2⟩
 ·rename_i hob
  obtain ⟨h1,h2,_⟩:=hr
  exact ⟨0,(fun ob' h=>by rw [hob] at h;cases h),h1,h2⟩
theorem Lm (h:Sim X c tm w σ g D) {d t t' u':TypeId} {x y:PV U} {vx vy:Value} (hx:Rep X w (c.N g D) g vx x) (hy:Rep X w (c.N g D) g vy y) (hd:d<c.nt)
  (hr:(u9 V (some d) t u' x y).Rel K σ fp r τ gp):
  t=u'∧r= .done∧ ∃v' w' g' D',(Builtin.append_ #[t,t] t' #[vx,vy]).run P w= .ok v' w'∧Sim X c (tm.setIfInBounds d v') w' τ g' D':=by
 unfold u9 at hr
 cases htu:Nat.beq t u' with
 |false=>simp only [htu] at hr;exact hr.elim
 |true=>
 simp only [htu,cond_true] at hr
 refine ⟨by simpa using htu, ?_⟩
 obtain ⟨e',l',fp1,hr1,hsy⟩:=HZ h hy hr
 cases hE:V.isEl t e' with
 |false=>rw [hE] at hr1;exact hr1.elim
 |true=>
 rw [hE] at hr1
 simp only [cond_true] at hr1
 have hu:=(oF X hE).1
 have hsy0:=hsy
 obtain ⟨B,m,c2,hvy,hlm,hc2,_⟩:=hsy
 rw [hvy] at hsy0
 split at hr1
 ·rename_i e l o
  split at hr1
  case isFalse=>exact hr1.elim
  rename_i heq
  subst heq
  have hx0:=hx
  cases hx with
  |sl A n cp _ _ _ val hl hc ho q1 q2=>
  have hsx:SlAt X w (c.N g D) g (.slice A n cp) e' l:=⟨A,n,cp,rfl,hl,hc,fun j x hx k p hp=>by
   obtain ⟨b,hA,hcell,_⟩:=q1 j x hx k p hp
   exact ⟨b,_,hA,hcell,q2 j x hx k p hp⟩⟩
  have go: ∀ {us:Use} {fp2:List Loc},us≠ .read→(A=none→cp=0)→(n=cp)→(us= .wr→A=none)→n+m≤V.bound e'→(kH d us e' (l++l')).Rel K σ fp2 r τ gp→
    r= .done∧ ∃v' w' g' D',(Builtin.append_ #[t,t] t' #[.slice A n cp,vy]).run P w= .ok v' w'∧Sim X c (tm.setIfInBounds d v') w' τ g' D':=by
   intro us fp2 hus hA hcap hwr hroom hr2
   obtain ⟨nv,hnv,h1,h2⟩:=C8 hr2
   refine ⟨h1, ?_⟩
   rw [hvy]
   have hst:NewSt σ ((σ.setO d ⟨nv,e',l++l'⟩).setU d us) d nv e' (l++l') us none 0 e':=
    ⟨fun _=>rfl,fun _=>rfl,by simp,by simp,by simp,fun i hi _=>by simp [Ne.symm hi]⟩
   by_cases hm:m=0
   ·subst hm
    have hl0:l'=[]:=List.eq_nil_of_length_eq_zero hlm
    subst hl0
    have hN:NewOb w w σ D d nv none 0 none:=⟨rfl,rfl,rfl,Nat.le_refl _,fun _ _ _=>rfl,hnv,by simp,by simp⟩
    have hs:=h.newOb (e:=e') (se:=e') (val:= .slice A n cp) hN hst ⟨A,n,cp,rfl,by simpa using hl,hc,fun j x hx k p hp=>by
     rw [List.append_nil] at hx
     obtain ⟨b,hA,hcell,hn⟩:=q1 j x hx k p hp
     refine ⟨b,_,hA,hcell,hN.rep h (q2 j x hx k p hp),fun _ hn'=>hn ?_⟩
     have hlt:=World.block_lt_of_cell? w _ hcell
     rw [Addr.add_block] at hlt
     exact hN.forb _ _ hlt hn',by
     refine ⟨fun hw=> ?_,fun _=>hcap⟩
     have:=hwr hw
     exact ⟨this,by have:=hA this;omega,hA this⟩⟩
    exact ⟨_,w,_,_,Fi (X:=X) hu A B n cp c2 hc w,h2▸hs.put hd (o9 ⟨A,n,cp,rfl⟩)⟩
   ·obtain ⟨cells,cap,hrun,k1,k2,k3,k4⟩:=Fh (X:=X) (t':=t') hu hsx hsy0 hA (by omega) hroom
    have hN:NewOb w (w.drew.alloc (.cells cells (X.etid e'))) σ D d nv none 0 (some w.heap.size):=⟨rfl,rfl,rfl,by simp,fun b hb _=>heap_alloc_old w.drew _ b hb,hnv,by simp,fun b hb=>by injection hb with hb;subst hb;exact .inr ⟨Nat.le_refl _,by simp⟩⟩
    have hs:=h.newOb (e:=e') (se:=e') hN hst (w9 (X:=X) hsx hsy0 (fun hr=>hN.rep h hr) (heap_alloc_new w.drew _) k3 k2 hroom k1 k4 hus)
    exact ⟨_,_,_,_,hrun,h2▸hs.put hd (o9 ⟨_,_,_,rfl⟩)⟩
  split at hr1
  ·exact hr1.elim
  ·exact hr1.elim
  ·exact hr1.elim
  ·obtain ⟨hroom,hr2⟩:=yb hr1
   have hn:n=cp:=ho
   have hA0:A=none→cp=0:=fun hA=>by rw [←hn];exact (hsx.row).2.2.2.1 hA
   rw [hl,hlm] at hroom
   exact go (by simp) hA0 hn (by simp) hroom hr2
  ·obtain ⟨hroom,hr2⟩:=yb hr1
   obtain ⟨hA,hn,hcp⟩:=ho
   have hl0:l=[]:=List.eq_nil_of_length_eq_zero (hl.trans hn)
   subst hl0
   rw [hlm] at hroom
   exact go (us:= .wr) (by simp) (fun _=>hcp) (by omega) (fun _=>hA) (by omega) hr2
 ·rename_i i ver
  obtain ⟨ob,fp2,hob,hver,hr2⟩:=jL hr1
  split at hr2
  case isFalse=>exact hr2.elim
  rename_i heq
  subst heq
  obtain ⟨val,hkap,hO⟩:=h.objs i ob hob
  cases hx with
  |own _ _ _ ver' e val' hk hle he hs=>
  rw [hkap] at hk
  injection hk with hk
  injection hk with e1 hk
  injection hk with e2 e3
  subst e1;subst e2;subst e3
  have:=he hver.symm
  subst this
  obtain ⟨A,n,cp,hval,hl,hc,hh,hD⟩:=hO.val
  have hsx:SlAt X w (c.N g D) g (.slice A n cp) ob.e ob.l:=⟨A,n,cp,rfl,hl,hc,fun j x hx k p hp=>by
   obtain ⟨b,v,h1,h2,h3,_⟩:=hh j x hx k p hp;exact ⟨b,v,h1,h2,h3⟩⟩
  simp only [M.Rel] at hr2
  have hne:σ.u i≠ .read:=by
   intro hre;rw [hre] at hr2;exact hr2.elim
  have hr3: ∃fp3,(M.ask (aP (V.bound ob.e) ob.l.length l'.length) fun _=> .setO i ⟨ob.ver+1,ob.e,[]⟩ (.setU i .read (kH d (σ.u i) ob.e (ob.l++l')))).Rel K σ fp3 r τ gp:=by
   cases hui:σ.u i with
   |read=>exact absurd hui hne
   |app=>rw [hui] at hr2;exact ⟨_,hr2⟩
   |wr=>rw [hui] at hr2;exact ⟨_,hr2⟩
  obtain ⟨fp3,hr3⟩:=hr3
  obtain ⟨hroom,hr4⟩:=yb hr3
  obtain ⟨nv,hnv,h1,h2⟩:=C8 hr4
  refine ⟨h1, ?_⟩
  rw [hval,hvy]
  rw [hl,hlm] at hroom
  have hnvo: ∀ob',σ.o d=some ob'→ob'.ver<nv:=by
   intro ob' ho'
   by_cases hdi:i=d
   ·subst hdi
    rw [hob] at ho';injection ho' with ho';subst ho'
    have:=hnv ⟨ob.ver+1,ob.e,[]⟩ (by simp)
    simp at this;omega
   ·exact hnv ob' (by simp [hdi,ho'])
  have hst:NewSt σ (((((σ.setO i ⟨ob.ver+1,ob.e,[]⟩).setU i .read).setO d ⟨nv,ob.e,ob.l++l'⟩).setU d (σ.u i))) d nv ob.e (ob.l++l') (σ.u i) (some i) (ob.ver+1) ob.e:=
   ⟨fun _=>rfl,fun _=>rfl,by simp,by simp,fun j hj hs=>by injection hs with hs;subst hs;simp [Ne.symm hj],fun j hj hs=>by
    have:i≠j:=fun e=>hs (by rw [e])
    simp [Ne.symm hj,this]⟩
  have hsv: ∀j,(some i:Option Nat)=some j→(∀ob',σ.o j=some ob'→ob'.ver<ob.ver+1)∧ ∃ob',σ.o j=some ob':=by
   intro j hj
   injection hj with hj
   subst hj
   exact ⟨fun ob' h=>by rw [hob] at h;injection h with h;subst h;omega,ob,hob⟩
  by_cases hm:m=0
  ·subst hm
   have hl0:l'=[]:=List.eq_nil_of_length_eq_zero hlm
   subst hl0
   have hN:NewOb w w σ D d nv (some i) (ob.ver+1) (D i):=⟨rfl,rfl,rfl,Nat.le_refl _,fun _ _ _=>rfl,hnvo,hsv,fun b hb=> .inl ⟨i,rfl,hb⟩⟩
   have hOb:ObOK X w (c.N (g.newOb d nv ob.e (.slice A n cp) (some i) (ob.ver+1) ob.e) (eM D d (some i) (D i))) (g.newOb d nv ob.e (.slice A n cp) (some i) (ob.ver+1) ob.e) ob.e (ob.l++[]) (.slice A n cp) (σ.u i) (D i):=by
    rw [List.append_nil]
    rw [hval] at hO
    exact hO.mono (fun _ _=>rfl) hN.cell hN.forb (hN.le h)
   exact ⟨_,w,_,_,Fi (X:=X) hu A B n cp c2 hc w,h2▸(h.newOb hN hst hOb).put hd (o9 ⟨A,n,cp,rfl⟩)⟩
  ·by_cases hfit:n+m≤cp
   ·
    cases hDi:D i with
    |none=>
     rw [hDi] at hD
     cases hui:σ.u i with
     |read=>exact absurd hui hne
     |app=>have:=hD.2 hui;omega
     |wr=>have:=hD.1 hui;omega
    |some b=>
     rw [hDi] at hD
     obtain ⟨_,cur,hA,hblk,hsz,hmax⟩:=hD
     subst hA
     obtain ⟨i0,hi0,hz0,hsi,hbi⟩:=X.einfo ob.e
     obtain ⟨r1,_,_,_,r5,_,_⟩:=hsx.row
     obtain ⟨s1,_,_,s4,s5,_,s7⟩:=hsy0.row
     obtain ⟨b2,rfl⟩: ∃b2,B=some b2:=by
      cases B with
      |none=>exact absurd (s4 rfl) hm
      |some b2=>exact ⟨b2,rfl⟩
     have hfit':n*X.esize ob.e+(bF w (some b2) (m*X.esize ob.e)).length≤cur.size:=by
      rw [s1,hsz,←Nat.add_mul];exact Nat.mul_le_mul_right _ hfit
     have hrun:=run_append_room (P:=P) w t t' (X.etid ob.e) i0 hu hi0 b n cp cur hblk b2 m c2 (bF w (some b2) (m*X.esize ob.e)) (by rw [s1,hsi]) (fun j v hj=>s5 j v hj b2 rfl) s7 hfit (by rw [hsi];exact hfit')
     rw [hsi] at hrun
     have hN:NewOb w (w.setRow b (cur.toList.take (n*X.esize ob.e)++bF w (some b2) (m*X.esize ob.e)++cur.toList.drop (n*X.esize ob.e+(bF w (some b2) (m*X.esize ob.e)).length)).toArray) σ D d nv (some i) (ob.ver+1) (some b):=
      ⟨rfl,rfl,rfl,by simp,fun b' _ hne=>setRow_other w b b' _ (fun e=>hne i rfl (e▸hDi)),hnvo,hsv,fun b' hb'=>by injection hb' with hb';subst hb';exact .inl ⟨i,rfl,hDi⟩⟩
     have hOb:=w9 (X:=X) hsx hsy0 (fun hr=>hN.rep (e:=ob.e) (se:=ob.e) (val:= .slice (some ⟨b,0,none⟩) (n+m) cp) h hr) (setRow_heap w b cur _ (X.etid ob.e) (0,0) hblk) (cap:=cp) (by
      rw [List.append_assoc,List.size_toArray,ug _ _ _ hfit'];simpa using hsz) hmax.1 hroom hfit (by
      have hcl:(cur.toList.take (n*X.esize ob.e)).length=n*X.esize ob.e:=by simp;omega
      have hx2:(cur.toList.take (n*X.esize ob.e))=bF w (some ⟨b,0,none⟩) (n*X.esize ob.e):=by
       apply List.ext_getElem?
       intro q
       by_cases hq:q<n*X.esize ob.e
       ·obtain ⟨v,hv⟩: ∃v,(bF w (some ⟨b,0,none⟩) (n*X.esize ob.e))[q]? =some v:=⟨_,List.getElem?_eq_getElem (by rw [r1];exact hq)⟩
        have:=r5 q v hv _ rfl
        rw [Addr.add_lit',Nat.zero_add] at this
        unfold World.cell? at this
        rw [hblk] at this
        rw [hv,List.getElem?_take_of_lt hq]
        simpa using this
       ·rw [List.getElem?_eq_none (by omega),List.getElem?_eq_none (by rw [r1];omega)]
      simp only [List.append_assoc]
      rw [←List.append_assoc,show (n+m)*X.esize ob.e=(cur.toList.take (n*X.esize ob.e)++bF w (some b2) (m*X.esize ob.e)).length by rw [List.length_append,hcl,s1,Nat.add_mul],List.take_left,hx2]) hne
     exact ⟨_,_,_,_,hrun,h2▸(h.newOb hN hst hOb).put hd (o9 ⟨_,_,_,rfl⟩)⟩
   ·have hA0:A=none→cp=0:=by
     intro hA
     cases hDi:D i with
     |none=>
      rw [hDi] at hD
      cases hui:σ.u i with
      |read=>exact absurd hui hne
      |app=>rw [←hD.2 hui];exact (hsx.row).2.2.2.1 hA
      |wr=>exact (hD.1 hui).2.2
     |some b=>
      rw [hDi] at hD
      obtain ⟨_,cur,hA',_⟩:=hD
      rw [hA] at hA';cases hA'
    obtain ⟨cells,cap,hrun,k1,k2,k3,k4⟩:=Fh (X:=X) (t':=t') hu hsx hsy0 hA0 (by omega) hroom
    have hN:NewOb w (w.drew.alloc (.cells cells (X.etid ob.e))) σ D d nv (some i) (ob.ver+1) (some w.heap.size):=⟨rfl,rfl,rfl,by simp,fun b hb _=>heap_alloc_old w.drew _ b hb,hnvo,hsv,fun b hb=>by injection hb with hb;subst hb;exact .inr ⟨Nat.le_refl _,by simp⟩⟩
    have hOb:=w9 (X:=X) hsx hsy0 (fun hr=>hN.rep (e:=ob.e) (se:=ob.e) (val:= .slice (some ⟨w.heap.size,0,none⟩) (n+m) cap) h hr) (heap_alloc_new w.drew _) k3 k2 hroom k1 k4 hne
    exact ⟨_,_,_,_,hrun,h2▸(h.newOb hN hst hOb).put hd (o9 ⟨_,_,_,rfl⟩)⟩
 ·exact hr1.elim
end
end Go.Proofs.YtapmagaejigpnaaGreatDoor.PI
namespace Go.Proofs.YtapmagaejigpnaaGreatDoor.PI
open Go
set_option linter.unusedVariables false
set_option linter.unusedSimpArgs false
section
variable {U:Uni} {V:Env U} {P:Program} {X:Link V P} {K:bU U} {S:Side U} {c:Ctx} {tm:Array Value} {a:Act} {w:World} {σ:St U} {g:Gh U} {D:Nat→Option Nat}
variable {next:Act→World→Prop} {Q:Exit→Act→World→Prop} {r:MR U} {τ:St U} {fp gp:List Loc} {N:aw}
variable {dst:Option Tmp} {ty:TypeId} {pos:String} {after:Array Edge} {gd:Option (Nat×Bool)}
theorem Fj {b:Builtin} {cl:Call} (hb:cl.callee= .builtin b) (w:World):(execOp a.eval ⟨dst,.call cl,ty,pos,after,gd⟩).run P w=
  (builtin b cl.argTypes ty (cl.args.map fun| .const _=>true|_=>false) (cl.args.map a.eval)).run P w:=by
 simp only [execOp,resolve,hb,Sem.run_bind,Sem.run_pure,Result.andThen_ok,invoke]
 rfl
theorem Ua {t:TypeId} (X:Link V P) (h:Nat.beq (V.eqk t) 4=true):P.underlying t=some .string:=by
 simp [Env.eqk] at h
 split at h
 ·rename_i row hrow;exact (X.ty t row hrow).isStr h
 ·cases h
theorem C2 {t:TypeId} {e:U.E} (X:Link V P) (h:V.mty t=some e): ∃b i,P.underlying t=some (.map (X.etid e) b)∧P.info? b=some i∧i.zero=some (.bool false):=by
 unfold Env.mty at h
 split at h
 ·rename_i row hrow;exact (X.ty t row hrow).keys e h
 ·cases h
theorem yj {k:Nat} {es:Array MapEntry} {clock:Nat} (hb:w.heap[k]? =some (.map es clock)):(getObj k).run P w= .ok (.map es clock) w:=by
 simp [getObj,Sem.run,hb]
theorem Fw {k:Nat} {es:Array MapEntry} {clock:Nat} (o:Obj) (hb:w.heap[k]? =some (.map es clock)):(setObj k o).run P w= .ok () {w with heap:=w.heap.setIfInBounds k o}:=by
 simp [setObj,Sem.run,hb]
theorem Rh {b:Builtin} {cl:Call} (hb:cl.callee= .builtin b) (hb':b≠ .recover) (hd:a8 c.nt ⟨dst,.call cl,ty,pos,after,gd⟩=true) (h:Sim X c a.tmps w σ g D) (hr:(bv V S ⟨dst,.call cl,ty,pos,after,gd⟩).Rel K σ fp r τ gp)
  (ht:Then X c a r τ next Q):(⟨dst,.call cl,ty,pos,after,gd⟩:Oper).wp P a w next Q:=by
 have hr0:(g7 V cl.args.toList cl.argTypes.toList fun vs=>vl V dst b cl.argTypes.toList vs).Rel K σ fp r τ gp:=by
  obtain ⟨callee,args,ats⟩:=cl
  simp only at hb
  subst hb
  cases b<;>first|exact hr|exact absurd rfl hb'
 obtain ⟨vs,fp1,hl,hvs,hr1⟩:=sG h hr0
 have hrun:=Fj (a:=a) (dst:=dst) (ty:=ty) (pos:=pos) (after:=after) (gd:=gd) (P:=P) hb w
 have jA: ∀ {p:PV U},vs=[p]→ ∃x,cl.args.map a.eval= #[x]∧Rep X w (c.N g D) g x p:=by
  intro p hp
  obtain ⟨x,hx⟩:=NH hl hp
  subst hp
  refine ⟨a.eval x, ?_, ?_⟩
  ·apply Array.ext';simp [hx]
  ·have:=hvs 0 p rfl;simpa [hx] using this
 have two: ∀ {p q:PV U},vs=[p,q]→ ∃x y,cl.args.map a.eval= #[x,y]∧Rep X w (c.N g D) g x p∧Rep X w (c.N g D) g y q:=by
  intro p q hp
  obtain ⟨x,y,hx⟩:=NI hl hp
  subst hp
  refine ⟨a.eval x,a.eval y, ?_, ?_, ?_⟩
  ·apply Array.ext';simp [hx]
  ·have:=hvs 0 p rfl;simpa [hx] using this
  ·have:=hvs 1 q rfl;simpa [hx] using this
 have ty1: ∀ {t:TypeId},cl.argTypes.toList=[t]→cl.argTypes= #[t]:=fun h=>Array.ext' (by simpa using h)
 generalize hts:cl.argTypes.toList=ts at hr1
 unfold vl at hr1
 split at hr1
 ·rename_i t s
  obtain ⟨x,hx,hrep⟩:=jA rfl
  cases hE:Nat.beq (V.eqk t) 4 with
  |false=>rw [hE] at hr1;exact hr1.elim
  |true=>
   rw [hE] at hr1
   refine bD hd ht h (v:= .int .i64 s.size) ?_ (.int _ _) hr1
   rw [hrun,hx,ty1 hts,tW hrep]
   simp [builtin,Builtin.len_,run_underlying (Ua X hE),goInt]
 ·rename_i t id
  obtain ⟨x,hx,hrep⟩:=jA rfl
  simp only [M.Rel] at hr1
  split at hr1
  case h_2=>exact hr1.elim
  rename_i e l hbx
  split at hr1
  case h_2=>exact hr1.elim
  rename_i e' hm
  obtain ⟨vb,i,hu,_⟩:=C2 X hm
  obtain ⟨k,hk,en,cl',hblk,hsz,_⟩:=h.boxes _ _ hbx
  cases hrep with
  |mp _ b hb2=>
   rw [hb2] at hk
   injection hk with hk
   subst hk
   refine bD hd ht h (v:= .int .i64 l.length) ?_ (.int _ _) hr1
   rw [hrun,hx,ty1 hts]
   simp [builtin,Builtin.len_,run_underlying hu,goInt,yj hblk,hsz]
 ·rename_i t x0 _ _
  obtain ⟨x,hx,hrep⟩:=jA rfl
  obtain ⟨e,l,fp2,hr2,A,n,cp,hv,hln,_⟩:=HZ h hrep hr1
  cases hE:V.isEl t e with
  |false=>rw [hE] at hr2;exact hr2.elim
  |true=>
   rw [hE] at hr2
   refine bD hd ht h (v:= .int .i64 l.length) ?_ (.int _ _) hr2
   rw [hrun,hx,ty1 hts,hv]
   simp [builtin,Builtin.len_,run_underlying (oF X hE).1,goInt,hln]
 ·rename_i t u x0 y0
  obtain ⟨x,y,hx,hrx,hry⟩:=two rfl
  cases dst with
  |none=>exact hr1.elim
  |some d=>
   obtain ⟨htu,hrr,v',w',g',D',hrun',hs⟩:=Lm (t':=ty) h hrx hry (si hd) hr1
   subst htu
   have hat:cl.argTypes= #[t,t]:=Array.ext' (by simpa using hts)
   unfold Oper.wp
   rw [hrun,hx,hat]
   simp only [builtin,Sem.run_bind,hrun',Result.andThen_ok,Sem.run_pure]
   exact ht.done hrr _ _ _ _ rfl hs
 ·rename_i k x0 k' y0
  obtain ⟨x,y,hx,hrx,hry⟩:=two rfl
  refine bD hd ht h (v:= .int k _) ?_ (.int _ _) hr1
  rw [hrun,hx,cv hrx,cv hry]
  simp [builtin,run_min_int2]
 ·rename_i k x0 k' y0
  obtain ⟨x,y,hx,hrx,hry⟩:=two rfl
  refine bD hd ht h (v:= .int k _) ?_ (.int _ _) hr1
  rw [hrun,hx,cv hrx,cv hry]
  simp [builtin,run_max_int2]
 ·exact hr1.elim
end
end Go.Proofs.YtapmagaejigpnaaGreatDoor.PI
namespace Go.Proofs.YtapmagaejigpnaaGreatDoor.PI
open Go
set_option linter.unusedVariables false
set_option linter.unusedSimpArgs false
section
variable {U:Uni} {V:Env U} {P:Program} {X:Link V P} {c:Ctx} {tm:Array Value} {w:World} {σ:St U} {g:Gh U} {D:Nat→Option Nat}
theorem dV: ∀ {cs:List (PV U)} {j:Nat} {p:PV U},cs[j]? =some p→ ∀i∈p.ids,i∈PV.idsL cs:=by
 intro cs
 induction cs with
 |nil=>intro j p h;simp at h
 |cons v cs ih=>
  intro j p h i hi
  simp only [PV.idsL,List.mem_append]
  cases j with
  |zero=>simp at h;subst h;exact .inl hi
  |succ j=>exact .inr (ih (by simpa using h) i hi)
theorem fV: ∀ {cs:List (PV U)} {j:Nat} {p:PV U},PV.noObjL cs=true→cs[j]? =some p→p.noObj=true:=by
 intro cs
 induction cs with
 |nil=>intro j p _ h;simp at h
 |cons v cs ih=>
  intro j p hn h
  simp only [PV.noObjL,Bool.and_eq_true] at hn
  cases j with
  |zero=>simp at h;subst h;exact hn.1
  |succ j=>exact ih hn.2 (by simpa using h)
theorem Rep.plain {w':World} {N N':aw} {g g':Gh U} {v:Value} {p:PV U} (h:Rep X w N g v p) (hw: ∀b o,b<w.heap.size→ ¬N b o→w'.cell? ⟨b,o,none⟩=w.cell? ⟨b,o,none⟩) (hN: ∀b o,b<w.heap.size→N' b o→N b o):
  p.noObj=true→(∀i∈p.ids,∀b,g.μ i=some b→g'.μ i=some b)→Rep X w' N' g' v p:=by
 have hcell: ∀a v,w.cell? a=some v→ ¬N a.block a.off→w'.cell? a=some v∧ ¬N' a.block a.off:=by
  intro a v hc hn
  have hlt:=World.block_lt_of_cell? w a hc
  have ha:=nP hc
  refine ⟨?_,fun h'=>hn (hN _ _ hlt h')⟩
  rw [ha] at hc ⊢
  rw [hw _ _ hlt hn,hc]
 induction h with
 |undef v=>intro _ _;exact .undef v
 |int k n=>intro _ _;exact .int k n
 |bool b=>intro _ _;exact .bool b
 |str s=>intro _ _;exact .str s
 |sl A n c e l o val hl hc ho h1 h2 ih=>
  intro _ _
  refine .sl A n c e l o val hl hc ho (fun j x hx k p hp=> ?_) fun j x hx k p hp=>ih j x hx k p hp (X.eplain hp).1 (by rw [(X.eplain hp).2];simp)
  obtain ⟨a,rfl,h,hn⟩:=h1 j x hx k p hp
  have:=hcell _ _ h (by rwa [Addr.add_block,Addr.add_off])
  rw [Addr.add_block,Addr.add_off] at this
  exact ⟨a,rfl,this⟩
 |own i v val ver e val' hk hv he hs=>intro h _;simp [PV.noObj] at h
 |agg vs cs hl h ih=>
  intro hn hi
  simp only [PV.noObj] at hn
  exact .agg vs cs hl fun j p hp=>ih j p hp (fV hn hp) fun i hi'=>hi i (by simp only [PV.ids];exact dV hp i hi')
 |tuple vs cs hl h ih=>
  intro hn hi
  simp only [PV.noObj] at hn
  exact .tuple vs cs hl fun j p hp=>ih j p hp (fV hn hp) fun i hi'=>hi i (by simp only [PV.ids];exact dV hp i hi')
 |ptr id off b hb=>intro _ hi;exact .ptr id off b (hi id (by simp [PV.ids]) b hb)
 |aptr id n b hb hn=>intro _ hi;exact .aptr id n b (hi id (by simp [PV.ids]) b hb) hn
 |mp id b hb=>intro _ hi;exact .mp id b (hi id (by simp [PV.ids]) b hb)
 |eptr e x off a val h1 h2 ih=>
  intro _ _
  refine .eptr e x off a val (fun k p hp=> ?_) fun k p hp=>ih k p hp (X.eplain hp).1 (by rw [(X.eplain hp).2];simp)
  obtain ⟨h,hn⟩:=h1 k p hp
  have:=hcell _ _ h (by rwa [Addr.add_block,Addr.add_off])
  rwa [Addr.add_block,Addr.add_off] at this
 |optr i v j off val ver e val' hk hv he hs=>intro h _;simp [PV.noObj] at h
 |func f a0s bs vs us ha hb h1 h2 i1 i2=>
  intro hn hi
  simp only [PV.noObj,Bool.and_eq_true] at hn
  exact .func f a0s bs vs us ha hb (fun j p hp=>i1 j p hp (fV hn.1 hp) fun i hi'=>hi i (by simp only [PV.ids,List.mem_append];exact .inl (dV hp i hi')))
   (fun j p hp=>i2 j p hp (fV hn.2 hp) fun i hi'=>hi i (by simp only [PV.ids,List.mem_append];exact .inr (dV hp i hi')))
 |iface t v p h ih=>intro hn hi;exact .iface t v p (ih hn hi)
 |nilIface=>intro _ _;exact .nilIface
 |nilPtr=>intro _ _;exact .nilPtr
 |nilFunc=>intro _ _;exact .nilFunc
structure Ent (U:Uni) where
 j:Nat
 e:U.E
 l:List (U.El e)
 val:Value
 u:Use
 Do:Option Nat
 src:Option Nat
structure KI (X:Link V P) (c:Ctx) (w:World) (g:Gh U) (D:Nat→Option Nat) (K:Kept U) (L:List (Ent U)):Prop where
 objs:K.objs=L.map fun x=>(x.j,⟨0,x.e,x.l⟩)
 uses:K.uses=L.map fun x=>(x.j,x.u)
 ok: ∀x∈L,ObOK X w (c.N g D) g x.e x.l x.val x.u x.Do∧ ∀b,x.Do=some b→ ∃i,x.src=some i∧D i=some b
 used:K.used=L.filterMap (·.src)
 nodup:K.used.Nodup
def RK (X:Link V P) (c:Ctx) (w:World) (σ:St U) (g:Gh U) (D:Nat→Option Nat) (K:Kept U) (L:List (Ent U)) (v:Value) (p:PV U):Prop:=
 (∃x∈L,p= .own x.j 0∧x.val=v)∨(∃i ob u,i∈K.read∧σ.o i=some ob∧p= .sl ob.e ob.l .none∧ObOK X w (c.N g D) g ob.e ob.l v u (D i))∨(p.noObj=true∧Rep X w (c.N g D) g v p)
theorem RK.mono {K K':Kept U} {L L':List (Ent U)} {v:Value} {p:PV U} (h:RK X c w σ g D K L v p) (hL: ∀x∈L,x∈L') (hK: ∀i∈K.read,i∈K'.read):RK X c w σ g D K' L' v p:=by
 rcases h with ⟨x,hx,h⟩|⟨i,ob,u,hi,h⟩|h
 ·exact .inl ⟨x,hL x hx,h⟩
 ·exact .inr (.inl ⟨i,ob,u,hK i hi,h⟩)
 ·exact .inr (.inr h)
theorem xZ {i ver:Nat} {v:Value} (h:Sim X c tm w σ g D) (hv:Rep X w (c.N g D) g v (.own i ver)) {ob:Ob U} (ho:σ.o i=some ob) (hver:ob.ver=ver):ObOK X w (c.N g D) g ob.e ob.l v (σ.u i) (D i):=by
 obtain ⟨val,hk,hO⟩:=h.objs i ob ho
 cases hv with
 |own _ _ _ ver' e val' hk' hle he _=>
  rw [hk] at hk'
  injection hk' with e1
  injection e1 with e1 e2
  injection e2 with e2 e3
  subst e1;subst e2;subst e3
  rw [he hver.symm]
  exact hO
theorem ObOK.to {N:aw} {e:U.E} {l:List (U.El e)} {val:Value} {u u':Use} {Do:Option Nat} {wr:Bool} (h:ObOK X w N g e l val u Do) (hu:u.to wr=some u'):ObOK X w N g e l val u' Do:=by
 obtain ⟨A,n,cp,h1,h2,h3,h4,h5⟩:=h.val
 refine ⟨A,n,cp,h1,h2,h3,h4, ?_⟩
 cases Do with
 |some b=>
  obtain ⟨h6,h7⟩:=h5
  refine ⟨fun e=> ?_,h7⟩
  subst e
  cases u<;>cases wr<;>simp [Use.to] at hu
 |none=>
  cases u<;>cases wr<;>simp [Use.to] at hu<;>subst hu
  ·exact h5
  ·refine ⟨by simp,fun _=> ?_⟩
   have:=h5.1 rfl
   omega
  ·exact h5
theorem E6 (h:Sim X c tm w σ g D) {t:Option (Nat×Bool)} {p q:PV U} {v:Value} {K K':Kept U} {L:List (Ent U)} (hv:Rep X w (c.N g D) g v p) (hK:KI X c w g D K L) (hr:jE σ t p K=some (q,K')):
  ∃L',KI X c w g D K' L'∧(∀x∈L,x∈L')∧(∀i∈K.read,i∈K'.read)∧RK X c w σ g D K' L' v q:=by
 have plain:wF t p K=some (q,K')→ ∃L',KI X c w g D K' L'∧(∀x∈L,x∈L')∧(∀i∈K.read,i∈K'.read)∧RK X c w σ g D K' L' v q:=by
  intro hh
  unfold wF at hh
  split at hh
  ·cases hb:p.noObj with
   |false=>rw [hb] at hh;cases hh
   |true=>
    rw [hb] at hh
    injection hh with hh
    injection hh with h1 h2
    subst h1;subst h2
    exact ⟨L,hK,fun _ h=>h,fun _ h=>h,.inr (.inr ⟨hb,hv⟩)⟩
  ·cases hh
 cases p with
 |own i ver=>
  simp only [jE] at hr
  split at hr
  case h_2=>cases hr
  rename_i ob hob
  cases hb:Nat.beq ob.ver ver with
  |false=>rw [hb] at hr;cases hr
  |true=>
   rw [hb] at hr
   have hO:=xZ h hv hob (by simpa using hb)
   simp only [cond_true] at hr
   split at hr
   ·injection hr with hr
    injection hr with h1 h2
    subst h1;subst h2
    exact ⟨L,⟨hK.objs,hK.uses,hK.ok,hK.used,hK.nodup⟩,fun _ h=>h,fun i hi=>by simp [hi],.inr (.inl ⟨i,ob,_,by simp,hob,rfl,hO⟩)⟩
   ·rename_i j wr
    split at hr
    ·cases hr
    ·rename_i u hu
     cases hany:K.used.any (Nat.beq i) with
     |true=>rw [hany] at hr;cases hr
     |false=>
      rw [hany] at hr
      injection hr with hr
      injection hr with h1 h2
      subst h1;subst h2
      have hni:i∉K.used:=by
       intro hi
       have:K.used.any (Nat.beq i)=true:=List.any_eq_true.2 ⟨i,hi,by simp⟩
       rw [hany] at this;cases this
      refine ⟨⟨j,ob.e,ob.l,v,u,D i,some i⟩::L,⟨by simp [hK.objs],by simp [hK.uses],fun x hx=> ?_,by simp [hK.used], ?_⟩,fun x hx=>by simp [hx],fun _ h=>h,.inl ⟨_,List.mem_cons_self,rfl,rfl⟩⟩
      ·rcases List.mem_cons.1 hx with rfl|hx
       ·exact ⟨hO.to hu,fun b hb=>⟨i,rfl,hb⟩⟩
       ·exact hK.ok x hx
      ·exact List.nodup_cons.2 ⟨hni,hK.nodup⟩
 |sl e l o=>
  have new: ∀ {j:Nat} {l':List (U.El e)} {u:Use},ObOK X w (c.N g D) g e l' v u none→q= .own j 0→K'=⟨(j,⟨0,e,l'⟩)::K.objs,(j,u)::K.uses,K.used,K.read⟩→ ∃L',KI X c w g D K' L'∧(∀x∈L,x∈L')∧(∀i∈K.read,i∈K'.read)∧RK X c w σ g D K' L' v q:=by
   intro j l' u hO h1 h2
   subst h1;subst h2
   refine ⟨⟨j,e,l',v,u,none,none⟩::L,⟨by simp [hK.objs],by simp [hK.uses],fun x hx=> ?_,by simp [hK.used],hK.nodup⟩,fun x hx=>by simp [hx],fun _ h=>h,.inl ⟨_,List.mem_cons_self,rfl,rfl⟩⟩
   rcases List.mem_cons.1 hx with rfl|hx
   ·exact ⟨hO,by simp⟩
   ·exact hK.ok x hx
  have hcells: ∀ {A n cp},v= .slice A n cp→n≤cp∧l.length=n∧ ∀ (j:Nat) x,l[j]? =some x→ ∀ (k:Nat) p,(V.cells e x)[k]? =some p→ ∃a v,A=some a∧w.cell? (a.add (j*X.esize e+k))=some v∧Rep X w (c.N g D) g v p∧((none:Option Nat)=none→ ¬ (c.N g D) a.block (a.off+(j*X.esize e+k))):=by
   intro A n cp hvv
   subst hvv
   cases hv with
   |sl _ _ _ _ _ _ val hl hc ho r1 r2=>
    exact ⟨hc,hl,fun j x hx k p hp=>by
     obtain ⟨b,hA,hcell,hn⟩:=r1 j x hx k p hp
     exact ⟨b,_,hA,hcell,r2 j x hx k p hp,fun _=>hn⟩⟩
  simp only [jE] at hr
  split at hr
  ·injection hr with hr
   injection hr with h1 h2
   subst h1;subst h2
   refine ⟨L,hK,fun _ h=>h,fun _ h=>h,.inr (.inr ⟨rfl, ?_⟩)⟩
   exact hv.less (.inr ⟨e,l,_,rfl,rfl⟩)
  ·cases hr
  ·cases hr
  ·cases hr
  ·rename_i j wr
   cases wr with
   |true=>cases hr
   |false=>
    simp only [cond_false] at hr
    injection hr with hr
    injection hr with h1 h2
    cases hv with
    |sl A n cp _ _ _ val hl hc ho r1 r2=>
     obtain ⟨a1,a2,a3⟩:=hcells rfl
     exact new (l':=l) ⟨A,n,cp,rfl,a2,a1,a3,by simp,fun _=>ho⟩ h1.symm h2.symm
  ·rename_i j wr
   injection hr with hr
   injection hr with h1 h2
   cases hv with
   |sl A n cp _ _ _ val hl hc ho r1 r2=>
    obtain ⟨rfl,rfl,rfl⟩:=ho
    exact new (l':=[]) ⟨none,0,0,rfl,rfl,Nat.le_refl _,by simp,fun _=>⟨rfl,rfl,rfl⟩,fun _=>rfl⟩ h1.symm h2.symm
 |agg cs=>cases hr
 |tuple cs=>cases hr
 |optr i v j off=>cases hr
 |fresh e l=>cases hr
 |undef=>exact plain hr
 |int k n=>exact plain hr
 |bool b=>exact plain hr
 |str s=>exact plain hr
 |ptr id off=>exact plain hr
 |aptr id n=>exact plain hr
 |eptr e x off=>exact plain hr
 |mp id=>exact plain hr
 |func f a b=>exact plain hr
 |iface t p=>exact plain hr
 |nilIface=>exact plain hr
 |nilPtr=>exact plain hr
 |nilFunc=>exact plain hr
theorem LQ (h:Sim X c tm w σ g D): ∀ (rs:List (Nat×Option (Nat×Bool))) {K K':Kept U} {L:List (Ent U)} {l:List (Nat×PV U)},KI X c w g D K L→lh σ rs K=some (l,K')→
  ∃L',KI X c w g D K' L'∧(∀x∈L,x∈L')∧(∀i∈K.read,i∈K'.read)∧ ∀n p,(n,p)∈l→RK X c w σ g D K' L' (tm.getD n undef) p:=by
 intro rs
 induction rs with
 |nil=>
  intro K K' L l hK hr
  simp only [lh] at hr
  injection hr with hr
  injection hr with h1 h2
  subst h1;subst h2
  exact ⟨L,hK,fun _ h=>h,fun _ h=>h,by simp⟩
 |cons nt rs ih=>
  intro K K' L l hK hr
  obtain ⟨n,t⟩:=nt
  simp only [lh] at hr
  split at hr
  case h_2=>cases hr
  rename_i v K1 hv
  split at hr
  case h_2=>cases hr
  rename_i l' K2 hl
  injection hr with hr
  injection hr with h1 h2
  subst h1;subst h2
  obtain ⟨L1,k1,k2,k3,k4⟩:=E6 h (h.regs n) hK hv
  obtain ⟨L2,m1,m2,m3,m4⟩:=ih k1 hl
  refine ⟨L2,m1,fun x hx=>m2 x (k2 x hx),fun i hi=>m3 i (k3 i hi),fun n' p hp=> ?_⟩
  rcases List.mem_cons.1 hp with hp|hp
  ·injection hp with e1 e2
   subst e1;subst e2
   exact k4.mono m2 m3
  ·exact m4 n' p hp
theorem LP (h:Sim X c tm w σ g D): ∀ (ts:List (Option (Nat×Bool))) (cs:List (PV U)) (vs:Nat→Value) {K K':Kept U} {L:List (Ent U)} {l:List (PV U)},KI X c w g D K L→(∀ (j:Nat) p,cs[j]? =some p→Rep X w (c.N g D) g (vs j) p)→gh σ ts cs K=some (l,K')→
  ∃L',KI X c w g D K' L'∧(∀x∈L,x∈L')∧(∀i∈K.read,i∈K'.read)∧l.length=cs.length∧ ∀ (j:Nat) p,l[j]? =some p→RK X c w σ g D K' L' (vs j) p:=by
 intro ts
 induction ts with
 |nil=>
  intro cs vs K K' L l hK _ hr
  cases cs with
  |nil=>
   simp only [gh] at hr
   injection hr with hr
   injection hr with h1 h2
   subst h1;subst h2
   exact ⟨L,hK,fun _ h=>h,fun _ h=>h,rfl,by simp⟩
  |cons=>simp [gh] at hr
 |cons t ts ih=>
  intro cs vs K K' L l hK hc hr
  cases cs with
  |nil=>simp [gh] at hr
  |cons p cs=>
   simp only [gh] at hr
   split at hr
   case h_2=>cases hr
   rename_i v K1 hv
   split at hr
   case h_2=>cases hr
   rename_i l' K2 hl
   injection hr with hr
   injection hr with h1 h2
   subst h1;subst h2
   obtain ⟨L1,k1,k2,k3,k4⟩:=E6 h (hc 0 p rfl) hK hv
   obtain ⟨L2,m1,m2,m3,m5,m4⟩:=ih cs (fun j=>vs (j+1)) k1 (fun j p hp=>hc (j+1) p (by simpa using hp)) hl
   refine ⟨L2,m1,fun x hx=>m2 x (k2 x hx),fun i hi=>m3 i (k3 i hi),by simp [m5],fun j q hq=> ?_⟩
   cases j with
   |zero=>simp at hq;subst hq;exact k4.mono m2 m3
   |succ j=>exact m4 j q (by simpa using hq)
def BK (X:Link V P) (c:Ctx) (w:World) (σ:St U) (g:Gh U) (D:Nat→Option Nat) (K:Kept U) (L:List (Ent U)) (id:Nat):Box U→Prop
 | .cells cs=> ∃k cur e,g.μ id=some k∧w.heap[k]? =some (.cells cur e (0,0))∧cur.size=cs.length∧ ∀ (j:Nat) p,cs[j]? =some p→RK X c w σ g D K L (cur.getD j undef) p
 | .map e l=> ∃k,g.μ id=some k∧BoxOK X w (c.N g D) g k (.map e l)
theorem BK.mono {K K':Kept U} {L L':List (Ent U)} {id:Nat} {b:Box U} (h:BK X c w σ g D K L id b) (hL: ∀x∈L,x∈L') (hK: ∀i∈K.read,i∈K'.read):BK X c w σ g D K' L' id b:=by
 cases b with
 |cells cs=>obtain ⟨k,cur,e,h1,h2,h3,h4⟩:=h;exact ⟨k,cur,e,h1,h2,h3,fun j p hp=>(h4 j p hp).mono hL hK⟩
 |map e l=>exact h
theorem LN (h:Sim X c tm w σ g D): ∀ (bx:List (Nat×List (Option (Nat×Bool)))) {K K':Kept U} {L:List (Ent U)} {l:List (Nat×Box U)},KI X c w g D K L→eD σ bx K=some (l,K')→
  ∃L',KI X c w g D K' L'∧(∀x∈L,x∈L')∧(∀i∈K.read,i∈K'.read)∧ ∀n b,(n,b)∈l→BK X c w σ g D K' L' n b:=by
 intro bx
 induction bx with
 |nil=>
  intro K K' L l hK hr
  simp only [eD] at hr
  injection hr with hr
  injection hr with h1 h2
  subst h1;subst h2
  exact ⟨L,hK,fun _ h=>h,fun _ h=>h,by simp⟩
 |cons nt bx ih=>
  intro K K' L l hK hr
  obtain ⟨n,ts⟩:=nt
  simp only [eD] at hr
  split at hr
  ·rename_i cs hcs
   split at hr
   case h_2=>cases hr
   rename_i cs' K1 hv
   split at hr
   case h_2=>cases hr
   rename_i l' K2 hl
   injection hr with hr
   injection hr with h1 h2
   subst h1;subst h2
   obtain ⟨k,hk,cur,e,b1,b2,b3⟩:=h.boxes _ _ hcs
   obtain ⟨L1,k1,k2,k3,k5,k4⟩:=LP h ts cs (fun j=>cur.getD j undef) hK b3 hv
   obtain ⟨L2,m1,m2,m3,m4⟩:=ih k1 hl
   refine ⟨L2,m1,fun x hx=>m2 x (k2 x hx),fun i hi=>m3 i (k3 i hi),fun n' b hb=> ?_⟩
   rcases List.mem_cons.1 hb with hb|hb
   ·injection hb with e1 e2
    subst e1;subst e2
    exact ⟨k,cur,e,hk,b1,b2.trans k5.symm,fun j p hp=>(k4 j p hp).mono m2 m3⟩
   ·exact m4 n' b hb
  ·rename_i e l0 hcs
   split at hr
   case h_2=>cases hr
   rename_i l' K2 hl
   injection hr with hr
   injection hr with h1 h2
   subst h1;subst h2
   obtain ⟨k,hk,hbx⟩:=h.boxes _ _ hcs
   obtain ⟨L2,m1,m2,m3,m4⟩:=ih hK hl
   refine ⟨L2,m1,m2,m3,fun n' b hb=> ?_⟩
   rcases List.mem_cons.1 hb with hb|hb
   ·injection hb with e1 e2
    subst e1;subst e2
    exact ⟨k,hk,hbx⟩
   ·exact m4 n' b hb
  ·cases hr
end
end Go.Proofs.YtapmagaejigpnaaGreatDoor.PI
namespace Go.Proofs.YtapmagaejigpnaaGreatDoor.PI
open Go
set_option linter.unusedVariables false
set_option linter.unusedSimpArgs false
section
variable {U:Uni} {V:Env U} {P:Program} {X:Link V P} {c:Ctx} {tm:Array Value} {w:World} {σ:St U} {g:Gh U} {D:Nat→Option Nat}
theorem oN {α:Type}: ∀ {l:List (Nat×α)} {n:Nat} {x:α},bR l n=some x→(n,x)∈l:=by
 intro l
 induction l with
 |nil=>intro n x h;cases h
 |cons a l ih=>
  obtain ⟨m,v⟩:=a
  intro n x h
  rw [fS] at h
  split at h
  ·rename_i hm;subst hm;injection h with h;subst h;exact List.mem_cons_self
  ·exact List.mem_cons_of_mem _ (ih h)
theorem wR {α:Type}: ∀ {l:List (Nat×α)} {n:Nat},bR l n=none→ ∀x,(n,x)∉l:=by
 intro l
 induction l with
 |nil=>intro n _ x h;cases h
 |cons a l ih=>
  obtain ⟨m,v⟩:=a
  intro n h x hx
  rw [fS] at h
  split at h
  ·cases h
  ·rename_i hm
   rcases List.mem_cons.1 hx with hx|hx
   ·injection hx with e _;exact hm e.symm
   ·exact ih h x hx
theorem vW: ∀ {l:List Nat},ja l=true→l.Nodup:=by
 intro l
 induction l with
 |nil=>intro _;exact List.nodup_nil
 |cons n r ih=>
  intro h
  simp only [ja,Bool.and_eq_true,Bool.not_eq_true'] at h
  refine List.nodup_cons.2 ⟨fun hn=> ?_,ih h.2⟩
  have:r.any (Nat.beq n)=true:=List.any_eq_true.2 ⟨n,hn,by simp⟩
  rw [h.1] at this;cases this
theorem Q4 {α:Type} {l:List (Nat×α)} (h:(l.map (·.1)).Nodup) {n:Nat} {x y:α} (hx:(n,x)∈l) (hy:(n,y)∈l):x=y:=by
 induction l with
 |nil=>cases hx
 |cons a l ih=>
  simp only [List.map_cons,List.nodup_cons] at h
  rcases List.mem_cons.1 hx with e1|hx<;>rcases List.mem_cons.1 hy with e2|hy
  ·have e3:=e1.trans e2.symm;injection e3 with _ e3
  ·exact absurd (by rw [←e1];exact List.mem_map_of_mem (f:=(·.1)) hy) h.1
  ·exact absurd (by rw [←e2];exact List.mem_map_of_mem (f:=(·.1)) hx) h.1
  ·exact ih h.2 hx hy
theorem q_ (h:Sim X c tm w σ g D) {A:Ann} {τ:St U} (hc:dc A σ=some τ): ∃g' D',Sim X c tm w τ g' D':=by
 unfold dc at hc
 split at hc
 case h_2=>cases hc
 rename_i rs K1 hR
 split at hc
 case h_2=>cases hc
 rename_i bs K2 hB
 have h0:KI X c w g D (⟨[],[],[],[]⟩:Kept U) []:=⟨rfl,rfl,by simp,rfl,List.nodup_nil⟩
 obtain ⟨L1,k1,_,_,r1⟩:=LQ h A.regs h0 hR
 obtain ⟨L,k2,m2,m3,b2⟩:=LN h A.boxes k1 hB
 have r2: ∀n p,(n,p)∈rs→RK X c w σ g D K2 L (tm.getD n undef) p:=fun n p hp=>(r1 n p hp).mono m2 m3
 cases hb:(!(K2.used.any fun i=>K2.read.any (Nat.beq i))&&ja (K2.objs.map (·.1))&&(ja (bs.map (·.1))&&((PV.idsL (rs.map (·.2))++bs.flatMap (·.2.ids)).all fun i=>(bs.map (·.1)).any (Nat.beq i)))) with
 |false=>rw [hb] at hc;cases hc
 |true=>
 rw [hb] at hc
 injection hc with hc
 subst hc
 simp only [Bool.and_eq_true] at hb
 obtain ⟨⟨hur,hdo⟩,hdb,hids⟩:=hb
 have hur': ∀i,i∈K2.used→i∉K2.read:=by
  intro i hi hr
  have:(K2.used.any fun i=>K2.read.any (Nat.beq i))=true:=List.any_eq_true.2 ⟨i,hi,List.any_eq_true.2 ⟨i,hr,by simp⟩⟩
  rw [this] at hur;cases hur
 have hdo':(L.map (·.j)).Nodup:=by
  have:=vW hdo
  rw [k2.objs,List.map_map] at this
  exact this
 have hdb':=vW hdb
 have hids': ∀i,(i∈PV.idsL (rs.map (·.2))∨i∈bs.flatMap (·.2.ids))→i∈bs.map (·.1):=by
  intro i hi
  have:=List.all_eq_true.1 hids i (List.mem_append.2 hi)
  obtain ⟨j,hj,hij⟩:=List.any_eq_true.1 this
  have:i=j:=by simpa using hij
  rw [this];exact hj
 have huniq: ∀x∈L,∀y∈L,x.j=y.j→x=y:=by
  intro x hx y hy hxy
  have hn:(L.map fun x=>(x.j,x)).map (·.1)=L.map (·.j):=by simp [Function.comp_def]
  exact Q4 (l:=L.map fun x=>(x.j,x)) (by rw [hn];exact hdo') (List.mem_map.2 ⟨x,hx,rfl⟩) (List.mem_map.2 ⟨y,hy,by rw [hxy]⟩)
 let ent:Nat→Option (Ent U):=fun j=>L.find? fun x=>x.j==j
 have ent_mem: ∀x∈L,ent x.j=some x:=by
  intro x hx
  cases hf:ent x.j with
  |none=>have:=List.find?_eq_none.1 hf x hx;simp at this
  |some y=>
   have h1:=List.mem_of_find?_eq_some hf
   have h2:=List.find?_some hf
   have:y.j=x.j:=by simpa using h2
   rw [huniq y h1 x hx this]
 have ent_some: ∀j x,ent j=some x→x∈L∧x.j=j:=fun j x hx=>⟨List.mem_of_find?_eq_some hx,by have:=List.find?_some hx;simpa using this⟩
 let g':Gh U:={μ:=fun id=>if id∈bs.map (·.1) then g.μ id else none,κ:=fun j=>(ent j).map fun x=>(0,x.e,x.val)}
 let D':Nat→Option Nat:=fun j=>(ent j).bind (·.Do)
 have hD': ∀j b,D' j=some b→ ∃x∈L,x.j=j∧x.Do=some b∧ ∃i,x.src=some i∧D i=some b:=by
  intro j b hj
  cases he:ent j with
  |none=>simp [D',he] at hj
  |some x=>
   obtain ⟨hx,hxj⟩:=ent_some j x he
   have hDo:x.Do=some b:=by simpa [D',he] using hj
   exact ⟨x,hx,hxj,hDo,(k2.ok x hx).2 b hDo⟩
 have hN: ∀b o,b<w.heap.size→(c.N g' D') b o→(c.N g D) b o:=by
  rintro b o _ (hn|⟨id,hid⟩|⟨j,hj⟩)
  ·exact .inl hn
  ·simp only [g'] at hid
   split at hid
   ·exact .inr (.inl ⟨id,hid⟩)
   ·cases hid
  ·obtain ⟨x,_,_,_,i,_,hi⟩:=hD' j b hj
   exact .inr (.inr ⟨i,hi⟩)
 have hw: ∀b o,b<w.heap.size→ ¬ (c.N g D) b o→w.cell? ⟨b,o,none⟩=w.cell? ⟨b,o,none⟩:=fun _ _ _ _=>rfl
 have src_used: ∀x∈L,∀i,x.src=some i→i∈K2.used:=by
  intro x hx i hi
  rw [k2.used]
  exact List.mem_filterMap.2 ⟨x,hx,hi⟩
 have src_inj: ∀x∈L,∀y∈L,∀i,x.src=some i→y.src=some i→x=y:=by
  have hnd:=k2.nodup
  rw [k2.used] at hnd
  intro x hx y hy i hxi hyi
  clear_value g' D'
  clear ent_mem ent_some hD' hN huniq hdo' r2 r1 b2 k2 m2 src_used
  induction L with
  |nil=>cases hx
  |cons z L ih=>
   rcases List.mem_cons.1 hx with rfl|hx'<;>rcases List.mem_cons.1 hy with rfl|hy'
   ·rfl
   ·simp only [List.filterMap_cons,hxi] at hnd
    exact absurd (List.mem_filterMap.2 ⟨y,hy',hyi⟩) (List.nodup_cons.1 hnd).1
   ·simp only [List.filterMap_cons,hyi] at hnd
    exact absurd (List.mem_filterMap.2 ⟨x,hx',hxi⟩) (List.nodup_cons.1 hnd).1
   ·refine ih ?_ hx' hy'
    cases hz:z.src with
    |none=>simpa [List.filterMap_cons,hz] using hnd
    |some q=>simp only [List.filterMap_cons,hz] at hnd;exact (List.nodup_cons.1 hnd).2
 have hrep: ∀v p,RK X c w σ g D K2 L v p→(∀i∈p.ids,i∈bs.map (·.1))→Rep X w (c.N g' D') g' v p:=by
  intro v p hv hi
  rcases hv with ⟨x,hx,rfl,rfl⟩|⟨i,ob,u,hir,hob,rfl,hO⟩|⟨hn,hr⟩
  ·have hO:=(k2.ok x hx).1
   obtain ⟨A,n,cp,hv,_⟩:=hO.val
   exact .own x.j 0 _ 0 x.e x.val (by simp [g',ent_mem x hx]) (Nat.le_refl _) (fun _=>rfl) ⟨A,n,cp,hv⟩
  ·have hplain: ∀ {v:Value} {e:U.E} {x:U.El e} {k:Nat} {p:PV U},(V.cells e x)[k]? =some p→Rep X w (c.N g D) g v p→Rep X w (c.N g' D') g' v p:=
    fun hp hr=>hr.plain hw hN (X.eplain hp).1 (by rw [(X.eplain hp).2];simp)
   refine ObOK.rep (u:= .read) ?_
   obtain ⟨A,n,cp,h1,h2,h3,h4,h5⟩:=hO.val
   refine ⟨A,n,cp,h1,h2,h3,fun j x hx k p hp=> ?_,by simp⟩
   obtain ⟨b,v',hA,hcell,hr,hn⟩:=h4 j x hx k p hp
   refine ⟨b,v',hA,hcell,hplain hp hr,fun _=> ?_⟩
   have hlt:=World.block_lt_of_cell? w _ hcell
   rw [Addr.add_block] at hlt
   cases hDi:D i with
   |none=>exact fun h'=>hn hDi (hN _ _ hlt h')
   |some b'=>
    rw [hDi] at h5
    obtain ⟨_,cur,hA',_⟩:=h5
    rw [hA] at hA'
    injection hA' with hA'
    subst hA'
    rintro (hn'|⟨id,hid⟩|⟨q,hq⟩)
    ·have h6:=c.n0 _ _ hn'
     rcases (h.dnew i b' hDi).2 with h7|h7
     ·exact h6.2 h7
     ·simp at h6;omega
    ·simp only [g'] at hid
     split at hid
     ·exact h.dbox i id b' hDi hid
     ·cases hid
    ·obtain ⟨y,hy,_,_,i',hi',hDi'⟩:=hD' q b' hq
     have:=h.dinj _ _ _ hDi' hDi
     subst this
     exact hur' i' (src_used y hy i' hi') hir
  ·exact hr.plain hw hN hn fun i hi' b hb=>by simp only [g'];rw [if_pos (hi i hi')];exact hb
 have hplain: ∀ {v:Value} {e:U.E} {x:U.El e} {k:Nat} {p:PV U},(V.cells e x)[k]? =some p→Rep X w (c.N g D) g v p→Rep X w (c.N g' D') g' v p:=
  fun hp hr=>hr.plain hw hN (X.eplain hp).1 (by rw [(X.eplain hp).2];simp)
 have hlook: ∀id b,bR bs id=some b→id∈bs.map (·.1):=fun id b hb=>List.mem_map_of_mem (f:=(·.1)) (oN hb)
 refine ⟨g',D',{nt:=h.nt,regs:=fun n=> ?_,boxes:=fun id b hb=> ?_,dom:=fun id k hk=> ?_,inj:=fun id id' k hk hk'=> ?_,new:=fun id k hk=> ?_,objs:=fun j ob ho=> ?_,nobj:=fun j ho=> ?_,dinj:=fun j j' b hb hb'=> ?_,dnew:=fun j b hb=> ?_,dbox:=fun j id b hb hm=> ?_,ext:=h.ext,gl:=h.gl,fix:=fun id k hk=> ?_}⟩
 ·unfold St.r
  simp only
  cases hl:bR rs n with
  |none=>exact .undef _
  |some p=>
   have hm:=oN hl
   refine hrep _ _ (r2 n p hm) fun i hi=>hids' i (.inl ?_)
   obtain ⟨q,hq⟩:=List.mem_iff_getElem?.1 (List.mem_map_of_mem (f:=(·.2)) hm)
   exact dV hq i hi
 ·have hb':bR bs id=some b:=hb
  have hm:=oN hb'
  have hbk:=b2 id b hm
  have hin:=hlook id b hb'
  cases b with
  |cells cs=>
   obtain ⟨k,cur,e,q1,q2,q3,q4⟩:=hbk
   refine ⟨k,by simp only [g'];rw [if_pos hin];exact q1,cur,e,q2,q3,fun j p hp=>hrep _ _ (q4 j p hp) fun i hi=>hids' i (.inr ?_)⟩
   exact List.mem_flatMap.2 ⟨(id,.cells cs),hm,by simp only [Box.ids];exact dV hp i hi⟩
  |map e l=>
   obtain ⟨k,q1,en,cl,q2,q3,q4⟩:=hbk
   refine ⟨k,by simp only [g'];rw [if_pos hin];exact q1,en,cl,q2,q3,fun j x t hx=> ?_⟩
   obtain ⟨m,vs,s1,s2,s3,s4,s5⟩:=q4 j x t hx
   exact ⟨m,vs,s1,s2,s3,s4,fun k p hp=>hplain hp (s5 k p hp)⟩
 ·simp only [g'] at hk
  split at hk
  ·rename_i hin
   cases hl:bR bs id with
   |none=>
    obtain ⟨x,hx,hx1⟩:=List.mem_map.1 hin
    obtain ⟨n,b⟩:=x
    simp only at hx1
    subst hx1
    exact absurd hx (wR hl b)
   |some b=>exact ⟨b,hl⟩
  ·cases hk
 ·simp only [g'] at hk hk'
  split at hk<;>split at hk'<;>first|cases hk|cases hk'|exact h.inj _ _ _ hk hk'
 ·simp only [g'] at hk
  split at hk
  ·exact h.new id k hk
  ·cases hk
 ·have ho':bR K2.objs j=some ob:=ho
  have hm:=oN ho'
  rw [k2.objs] at hm
  obtain ⟨x,hx,hx1⟩:=List.mem_map.1 hm
  injection hx1 with e1 e2
  subst e1;subst e2
  have hu:bR K2.uses x.j=some x.u:=by
   cases hl:bR K2.uses x.j with
   |none=>exact absurd (by rw [k2.uses];exact List.mem_map.2 ⟨x,hx,rfl⟩) (wR hl x.u)
   |some u'=>
    have hm':=oN hl
    rw [k2.uses] at hm'
    obtain ⟨y,hy,hy1⟩:=List.mem_map.1 hm'
    injection hy1 with e1 e2
    rw [←e2,huniq y hy x hx e1]
  have hO:=(k2.ok x hx).1
  refine ⟨x.val,by simp [g',ent_mem x hx], ?_⟩
  have hu':(⟨rs,bs,K2.objs,K2.uses⟩:St U).u x.j=x.u:=by unfold St.u;simp only [hu]
  have hDe:D' x.j=x.Do:=by simp [D',ent_mem x hx]
  rw [hu',hDe]
  obtain ⟨A,n,cp,h1,h2,h3,h4,h5⟩:=hO.val
  refine ⟨A,n,cp,h1,h2,h3,fun j x' hx' k p hp=> ?_,h5⟩
  obtain ⟨b,v',hA,hcell,hr,hn⟩:=h4 j x' hx' k p hp
  refine ⟨b,v',hA,hcell,hplain hp hr,fun hd h'=>hn hd ?_⟩
  have hlt:=World.block_lt_of_cell? w _ hcell
  rw [Addr.add_block] at hlt
  exact hN _ _ hlt h'
 ·have hnone:ent j=none:=by
   cases he:ent j with
   |none=>rfl
   |some x=>
    obtain ⟨hx,hxj⟩:=ent_some j x he
    have ho':bR K2.objs j=none:=ho
    exact absurd (by rw [k2.objs];exact List.mem_map.2 ⟨x,hx,by rw [hxj]⟩) (wR ho' ⟨0,x.e,x.l⟩)
  exact ⟨by simp [g',hnone],by simp [D',hnone]⟩
 ·obtain ⟨x,hx,hxj,_,i,hi,hDi⟩:=hD' j b hb
  obtain ⟨y,hy,hyj,_,i',hi',hDi'⟩:=hD' j' b hb'
  have:=h.dinj _ _ _ hDi hDi'
  subst this
  rw [←hxj,←hyj,src_inj x hx y hy i hi hi']
 ·obtain ⟨_,_,_,_,i,_,hi⟩:=hD' j b hb
  exact h.dnew i b hi
 ·obtain ⟨_,_,_,_,i,_,hi⟩:=hD' j b hb
  simp only [g'] at hm
  split at hm
  ·exact h.dbox i id b hi hm
  ·cases hm
 ·simp only [g'] at hk
  split at hk
  ·exact h.fix id k hk
  ·cases hk
end
end Go.Proofs.YtapmagaejigpnaaGreatDoor.PI
