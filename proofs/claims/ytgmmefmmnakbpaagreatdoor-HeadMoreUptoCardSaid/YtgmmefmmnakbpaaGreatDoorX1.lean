/- Part 1 of a proof: the sources, with their names and remarks, lie in wip/. -/
import Derived.Test.YtgmmefmmnakbpaaGreatDoorX0
import Derived.Laws.Small
import Derived.Calls
import Derived.LoopN
import Derived.Scope
import Derived.Recover
import Derived.Orders
open Array renaming getD_eq_getD_getElem?→as1,getElem?_eq_some_iff→asV
open Bool renaming and_eq_true→anZ
open Go.Result renaming andThen_ok→arS
open Go.Sem renaming run_bind→arV
open List renaming all_eq_true→ars,append_nil→arE,getElem?_eq_getElem→arN,getElem?_eq_some_iff→asn,length_cons→aq5,mem_append→arH,mem_cons→arR,mem_map→art,mem_of_getElem?→as2,nil_append→arU,range→ar3
open Nat renaming beq→aoy,ble→arq,le_refl→aru,le_trans→arA,zero_add→asP
open Option renaming bind_some→an4
set_option linter.unusedVariables false
set_option linter.unusedSimpArgs false
namespace Go.Proofs.YtgmmefmmnakbpaaGreatDoor.PI
open Go
section
variable {U:Uni} {V:Env U} {P:Program} {X:Link V P} {K:cj U} {S:Side U} {c:Ctx} {tm:Array Value} {a:Act} {w:World} {σ:St U} {g:Gh U} {D:Nat->Option Nat}
variable {next:Act->World->Prop} {Q:Exit->Act->World->Prop} {r:MR U} {τ:St U} {fp gp:List Loc} {N:aN}
variable {dst:Option Tmp} {ty:TypeId} {pos:String} {after:Array Edge} {gd:Option (Nat×Bool)}
theorem QO {b:Builtin} {cl:Call} (hb:cl.callee= .builtin b) (w:World):(execOp a.eval ⟨dst,.call cl,ty,pos,after,gd⟩).run P w=
  (builtin b cl.argTypes ty (cl.args.map fun| .const _=>true|_=>false) (cl.args.map a.eval)).run P w:=by
 simp only [execOp,resolve,hb,arV,Sem.run_pure,arS,invoke]
 rfl
theorem akw {t:TypeId} (X:Link V P) (h:aoy (V.eqk t) 4=true):P.underlying t=some .string:=by
 simp [Env.eqk] at h
 split at h
 ·rename_i row hrow;exact (X.ty t row hrow).isStr h
 ·cases h
theorem Nx {t:TypeId} {e:U.E} (X:Link V P) (h:V.mty t=some e): ∃b i,P.underlying t=some (.map (X.etid e) b)/\P.info? b=some i/\i.zero=some (.bool false):=by
 unfold Env.mty at h
 split at h
 ·rename_i row hrow;exact (X.ty t row hrow).keys e h
 ·cases h
theorem G6 {k:Nat} {es:Array MapEntry} {clock:Nat} (hb:w.heap[k]? =some (.map es clock)):(getObj k).run P w= .ok (.map es clock) w:=by
 simp [getObj,Sem.run,hb]
theorem QZ {k:Nat} {es:Array MapEntry} {clock:Nat} (o:Obj) (hb:w.heap[k]? =some (.map es clock)):(setObj k o).run P w= .ok () {w with heap:=w.heap.setIfInBounds k o}:=by
 simp [setObj,Sem.run,hb]
theorem ag9 {b:Builtin} {cl:Call} (hb:cl.callee= .builtin b) (hb':b≠ .recover) (hd:bq c.nt ⟨dst,.call cl,ty,pos,after,gd⟩=true) (h:Sim X c a.tmps w σ g D) (hr:(bL V S ⟨dst,.call cl,ty,pos,after,gd⟩).Rel K σ fp r τ gp)
  (ht:Then X c a r τ next Q):(⟨dst,.call cl,ty,pos,after,gd⟩:Oper).wp P a w next Q:=by
 have hr0:(kf V cl.args.toList cl.argTypes.toList fun vs=>Dq V dst b cl.argTypes.toList vs).Rel K σ fp r τ gp:=by
  obtain ⟨callee,args,ats⟩:=cl
  simp only at hb
  subst hb
  cases b<;>first|exact hr|exact absurd rfl hb'
 obtain ⟨vs,fp1,hl,hvs,hr1⟩:=zX h hr0
 have hrun:=QO (a:=a) (dst:=dst) (ty:=ty) (pos:=pos) (after:=after) (gd:=gd) (P:=P) hb w
 have mq: ∀ {p:PV U},vs=[p]-> ∃x,cl.args.map a.eval= #[x]/\Rep X w (c.N g D) g x p:=by
  intro p hp
  obtain ⟨x,hx⟩:=acK hl hp
  subst hp
  refine ⟨a.eval x, ?_, ?_⟩
  ·apply Array.ext';simp [hx]
  ·have:=hvs 0 p rfl;simpa [hx] using this
 have two: ∀ {p q:PV U},vs=[p,q]-> ∃x y,cl.args.map a.eval= #[x,y]/\Rep X w (c.N g D) g x p/\Rep X w (c.N g D) g y q:=by
  intro p q hp
  obtain ⟨x,y,hx⟩:=acL hl hp
  subst hp
  refine ⟨a.eval x,a.eval y, ?_, ?_, ?_⟩
  ·apply Array.ext';simp [hx]
  ·have:=hvs 0 p rfl;simpa [hx] using this
  ·have:=hvs 1 q rfl;simpa [hx] using this
 have ty1: ∀ {t:TypeId},cl.argTypes.toList=[t]->cl.argTypes= #[t]:=fun h=>Array.ext' (by simpa using h)
 generalize hts:cl.argTypes.toList=ts at hr1
 unfold Dq at hr1
 split at hr1
 ·rename_i t s
  obtain ⟨x,hx,hrep⟩:=mq rfl
  cases hE:aoy (V.eqk t) 4 with
  |false=>rw [hE] at hr1;exact hr1.elim
  |true=>
   rw [hE] at hr1
   refine bN hd ht h (v:= .int .i64 s.size) ?_ (.int _ _) hr1
   rw [hrun,hx,ty1 hts,Bm hrep]
   simp [builtin,Builtin.len_,run_underlying (akw X hE),goInt]
 ·rename_i t id
  obtain ⟨x,hx,hrep⟩:=mq rfl
  simp only [M.Rel] at hr1
  split at hr1
  case h_2=>exact hr1.elim
  rename_i e l hbx
  split at hr1
  case h_2=>exact hr1.elim
  rename_i e' hm
  obtain ⟨vb,i,hu,_⟩:=Nx X hm
  obtain ⟨k,hk,en,cl',hblk,hsz,_⟩:=h.boxes _ _ hbx
  cases hrep with
  |mp _ b hb2=>
   rw [hb2] at hk
   injection hk with hk
   subst hk
   refine bN hd ht h (v:= .int .i64 l.length) ?_ (.int _ _) hr1
   rw [hrun,hx,ty1 hts]
   simp [builtin,Builtin.len_,run_underlying hu,goInt,G6 hblk,hsz]
 ·rename_i t x0 _ _
  obtain ⟨x,hx,hrep⟩:=mq rfl
  obtain ⟨e,l,fp2,hr2,A,n,cp,hv,hln,_⟩:=Ul h hrep hr1
  cases hE:V.isEl t e with
  |false=>rw [hE] at hr2;exact hr2.elim
  |true=>
   rw [hE] at hr2
   refine bN hd ht h (v:= .int .i64 l.length) ?_ (.int _ _) hr2
   rw [hrun,hx,ty1 hts,hv]
   simp [builtin,Builtin.len_,run_underlying (uE X hE).1,goInt,hln]
 ·rename_i t u x0 y0
  obtain ⟨x,y,hx,hrx,hry⟩:=two rfl
  cases dst with
  |none=>exact hr1.elim
  |some d=>
   obtain ⟨htu,hrr,v',w',g',D',hrun',hs⟩:=ZF (t':=ty) h hrx hry (zH hd) hr1
   subst htu
   have hat:cl.argTypes= #[t,t]:=Array.ext' (by simpa using hts)
   unfold Oper.wp
   rw [hrun,hx,hat]
   simp only [builtin,arV,hrun',arS,Sem.run_pure]
   exact ht.done hrr _ _ _ _ rfl hs
 ·rename_i k x0 k' y0
  obtain ⟨x,y,hx,hrx,hry⟩:=two rfl
  refine bN hd ht h (v:= .int k _) ?_ (.int _ _) hr1
  rw [hrun,hx,c6 hrx,c6 hry]
  simp [builtin,run_min_int2]
 ·rename_i k x0 k' y0
  obtain ⟨x,y,hx,hrx,hry⟩:=two rfl
  refine bN hd ht h (v:= .int k _) ?_ (.int _ _) hr1
  rw [hrun,hx,c6 hrx,c6 hry]
  simp [builtin,run_max_int2]
 ·exact hr1.elim
end
section
variable {U:Uni} {V:Env U} {P:Program} {X:Link V P} {c:Ctx} {tm:Array Value} {w:World} {σ:St U} {g:Gh U} {D:Nat->Option Nat}
theorem fj: ∀ {cs:List (PV U)} {j:Nat} {p:PV U},cs[j]? =some p-> ∀i∈p.ids,i∈PV.idsL cs:=by
 intro cs
 induction cs<;>grind [PV.idsL]
theorem at0: ∀ {cs:List (PV U)} {j:Nat} {p:PV U},PV.noObjL cs=true->cs[j]? =some p->p.noObj=true:=by
 intro cs
 induction cs<;>grind [PV.noObjL]
theorem Rep.plain {w':World} {N N':aN} {g g':Gh U} {v:Value} {p:PV U} (h:Rep X w N g v p) (hw: ∀b o,b<w.heap.size-> ¬N b o->w'.cell? ⟨b,o,none⟩=w.cell? ⟨b,o,none⟩) (hN: ∀b o,b<w.heap.size->N' b o->N b o):
  p.noObj=true->(∀i∈p.ids,∀b,g.μ i=some b->g'.μ i=some b)->Rep X w' N' g' v p:=by
 have hcell: ∀a v,w.cell? a=some v-> ¬N a.block a.off->w'.cell? a=some v/\ ¬N' a.block a.off:=by
  grind [World.block_lt_of_cell?,yo]
 induction h with
 |undef v=>intro _ _;exact .undef v
 |int k n=>intro _ _;exact .int k n
 |bool b=>intro _ _;exact .bool b
 |str s=>intro _ _;exact .str s
 |sl A n c e l o val hl hc ho h1 h2 ih=>
  intro _ _
  refine .sl A n c e l o val hl hc ho (fun j x hx k p hp=> ?_) fun j x hx k p hp=>ih j x hx k p hp (X.eplain hp).1 (by rw [(X.eplain hp).2];simp)
  grind [Addr.add_block,Addr.add_off]
 |own i v val ver e val' hk hv he hs=>grind [PV.noObj]
 |agg vs cs hl h ih=>
  intro hn hi
  simp only [PV.noObj] at hn
  exact .agg vs cs hl fun j p hp=>ih j p hp (at0 hn hp) fun i hi'=>hi i (by grind [PV.ids,fj])
 |tuple vs cs hl h ih=>
  intro hn hi
  simp only [PV.noObj] at hn
  exact .tuple vs cs hl fun j p hp=>ih j p hp (at0 hn hp) fun i hi'=>hi i (by grind [PV.ids,fj])
 |ptr id off b hb=>intro _ hi;exact .ptr id off b (hi id (by simp [PV.ids]) b hb)
 |aptr id n b hb hn=>intro _ hi;exact .aptr id n b (hi id (by simp [PV.ids]) b hb) hn
 |mp id b hb=>intro _ hi;exact .mp id b (hi id (by simp [PV.ids]) b hb)
 |eptr e x off a val h1 h2 ih=>
  intro _ _
  refine .eptr e x off a val (fun k p hp=> ?_) fun k p hp=>ih k p hp (X.eplain hp).1 (by rw [(X.eplain hp).2];simp)
  grind [Addr.add_block,Addr.add_off]
 |optr i v j off val ver e val' hk hv he hs=>grind [PV.noObj]
 |func f a0s bs vs us ha hb h1 h2 i1 i2=>
  intro hn hi
  simp only [PV.noObj,anZ] at hn
  exact .func f a0s bs vs us ha hb (fun j p hp=>i1 j p hp (at0 hn.1 hp) fun i hi'=>hi i (by grind [PV.ids,fj]))
   (fun j p hp=>i2 j p hp (at0 hn.2 hp) fun i hi'=>hi i (by grind [PV.ids,fj]))
 |iface t v p h ih=>intro hn hi;exact .iface t v p (ih hn hi)
 |nilIface=>intro _ _;exact .nilIface
 |nilPtr=>intro _ _;exact .nilPtr
 |nilFunc=>intro _ _;exact .nilFunc
structure Ent (U:Uni) where
 j:Nat
 e:U.E
 l:List (U.El e)
 val:Value
 u:Use
 Do:Option Nat
 src:Option Nat
structure KI (X:Link V P) (c:Ctx) (w:World) (g:Gh U) (D:Nat->Option Nat) (K:Kept U) (L:List (Ent U)):Prop where
 objs:K.objs=L.map fun x=>(x.j,⟨0,x.e,x.l⟩)
 uses:K.uses=L.map fun x=>(x.j,x.u)
 ok: ∀x∈L,ObOK X w (c.N g D) g x.e x.l x.val x.u x.Do/\ ∀b,x.Do=some b-> ∃i,x.src=some i/\D i=some b
 used:K.used=L.filterMap (·.src)
 nodup:K.used.Nodup
def RK (X:Link V P) (c:Ctx) (w:World) (σ:St U) (g:Gh U) (D:Nat->Option Nat) (K:Kept U) (L:List (Ent U)) (v:Value) (p:PV U):Prop:=
 (∃x∈L,p= .own x.j 0/\x.val=v)\/(∃i ob u,i∈K.read/\σ.o i=some ob/\p= .sl ob.e ob.l .none/\ObOK X w (c.N g D) g ob.e ob.l v u (D i))\/(p.noObj=true/\Rep X w (c.N g D) g v p)
theorem RK.mono {K K':Kept U} {L L':List (Ent U)} {v:Value} {p:PV U} (h:RK X c w σ g D K L v p) (hL: ∀x∈L,x∈L') (hK: ∀i∈K.read,i∈K'.read):RK X c w σ g D K' L' v p:=by
 rcases h with ⟨x,hx,h⟩|⟨i,ob,u,hi,h⟩|h
 ·exact .inl ⟨x,hL x hx,h⟩
 ·exact .inr (.inl ⟨i,ob,u,hK i hi,h⟩)
 ·exact .inr (.inr h)
theorem GV {i ver:Nat} {v:Value} (h:Sim X c tm w σ g D) (hv:Rep X w (c.N g D) g v (.own i ver)) {ob:Ob U} (ho:σ.o i=some ob) (hver:ob.ver=ver):ObOK X w (c.N g D) g ob.e ob.l v (σ.u i) (D i):=by
 obtain ⟨val,hk,hO⟩:=h.objs i ob ho
 cases hv with
 |own _ _ _ ver' e val' hk' hle he _=>
  grind
theorem ObOK.to {N:aN} {e:U.E} {l:List (U.El e)} {val:Value} {u u':Use} {Do:Option Nat} {wr:Bool} (h:ObOK X w N g e l val u Do) (hu:u.to wr=some u'):ObOK X w N g e l val u' Do:=by
 obtain ⟨A,n,cp,h1,h2,h3,h4,h5⟩:=h.val
 refine ⟨A,n,cp,h1,h2,h3,h4, ?_⟩
 cases Do with
 |some b=>
  obtain ⟨h6,h7⟩:=h5
  refine ⟨fun e=> ?_,h7⟩
  subst e
  cases u<;>cases wr<;>simp [Use.to] at hu
 |none=>
  cases u<;>cases wr<;>simp [Use.to] at hu<;>subst hu<;>grind
theorem Qy (h:Sim X c tm w σ g D) {t:Option (Nat×Bool)} {p q:PV U} {v:Value} {K K':Kept U} {L:List (Ent U)} (hv:Rep X w (c.N g D) g v p) (hK:KI X c w g D K L) (hr:mA σ t p K=some (q,K')):
  ∃L',KI X c w g D K' L'/\(∀x∈L,x∈L')/\(∀i∈K.read,i∈K'.read)/\RK X c w σ g D K' L' v q:=by
 have plain:E4 t p K=some (q,K')-> ∃L',KI X c w g D K' L'/\(∀x∈L,x∈L')/\(∀i∈K.read,i∈K'.read)/\RK X c w σ g D K' L' v q:=by
  intro hh
  unfold E4 at hh
  split at hh
  ·cases hb:p.noObj with
   |false=>grind
   |true=>
    rw [hb] at hh
    injection hh with hh
    injection hh with h1 h2
    subst h1;subst h2
    exact ⟨L,hK,fun _ h=>h,fun _ h=>h,.inr (.inr ⟨hb,hv⟩)⟩
  grind
 cases p with
 |own i ver=>
  simp only [mA] at hr
  split at hr
  case h_2=>cases hr
  rename_i ob hob
  cases hb:aoy ob.ver ver with
  |false=>grind
  |true=>
   rw [hb] at hr
   have hO:=GV h hv hob (by simp_all)
   simp only [cond_true] at hr
   split at hr
   ·injection hr with hr
    injection hr with h1 h2
    subst h1;subst h2
    exact ⟨L,⟨hK.objs,hK.uses,hK.ok,hK.used,hK.nodup⟩,fun _ h=>h,fun i hi=>by simp [hi],.inr (.inl ⟨i,ob,_,by simp,hob,rfl,hO⟩)⟩
   ·rename_i j wr
    split at hr
    ·cases hr
    ·rename_i u hu
     cases hany:K.used.any (aoy i) with
     |true=>grind
     |false=>
      rw [hany] at hr
      injection hr with hr
      injection hr with h1 h2
      subst h1;subst h2
      have hni:i∉K.used:=by
       intro hi
       have:K.used.any (aoy i)=true:=List.any_eq_true.2 ⟨i,hi,by simp⟩
       grind
      refine ⟨⟨j,ob.e,ob.l,v,u,D i,some i⟩::L,⟨by simp [hK.objs],by simp [hK.uses],fun x hx=> ?_,by simp [hK.used], ?_⟩,fun x hx=>by simp [hx],fun _ h=>h,.inl ⟨_,List.mem_cons_self,rfl,rfl⟩⟩
      ·rcases arR.1 hx with rfl|hx
       ·exact ⟨hO.to hu,fun b hb=>⟨i,rfl,hb⟩⟩
       ·exact hK.ok x hx
      ·exact List.nodup_cons.2 ⟨hni,hK.nodup⟩
 |sl e l o=>
  have new: ∀ {j:Nat} {l':List (U.El e)} {u:Use},ObOK X w (c.N g D) g e l' v u none->q= .own j 0->K'=⟨(j,⟨0,e,l'⟩)::K.objs,(j,u)::K.uses,K.used,K.read⟩-> ∃L',KI X c w g D K' L'/\(∀x∈L,x∈L')/\(∀i∈K.read,i∈K'.read)/\RK X c w σ g D K' L' v q:=by
   intro j l' u hO h1 h2
   subst h1;subst h2
   refine ⟨⟨j,e,l',v,u,none,none⟩::L,⟨by simp [hK.objs],by simp [hK.uses],fun x hx=> ?_,by simp [hK.used],hK.nodup⟩,fun x hx=>by simp [hx],fun _ h=>h,.inl ⟨_,List.mem_cons_self,rfl,rfl⟩⟩
   rcases arR.1 hx with rfl|hx
   ·grind
   ·exact hK.ok x hx
  have hcells: ∀ {A n cp},v= .slice A n cp->n<=cp/\l.length=n/\ ∀ (j:Nat) x,l[j]? =some x-> ∀ (k:Nat) p,(V.cells e x)[k]? =some p-> ∃a v,A=some a/\w.cell? (a.add (j*X.esize e+k))=some v/\Rep X w (c.N g D) g v p/\((none:Option Nat)=none-> ¬ (c.N g D) a.block (a.off+(j*X.esize e+k))):=by
   intro A n cp hvv
   subst hvv
   cases hv<;>grind
  simp only [mA] at hr
  split at hr
  ·injection hr with hr
   injection hr with h1 h2
   subst h1;subst h2
   refine ⟨L,hK,fun _ h=>h,fun _ h=>h,.inr (.inr ⟨rfl, ?_⟩)⟩
   exact hv.less (.inr ⟨e,l,_,rfl,rfl⟩)
  ·cases hr
  ·cases hr
  ·cases hr
  ·rename_i j wr
   cases wr with
   |true=>cases hr
   |false=>
    simp only [cond_false] at hr
    injection hr with hr
    injection hr with h1 h2
    cases hv with
    |sl A n cp _ _ _ val hl hc ho r1 r2=>
     obtain ⟨a1,a2,a3⟩:=hcells rfl
     exact new (l':=l) ⟨A,n,cp,rfl,a2,a1,a3,by simp,fun _=>ho⟩ h1.symm h2.symm
  ·rename_i j wr
   injection hr with hr
   injection hr with h1 h2
   cases hv with
   |sl A n cp _ _ _ val hl hc ho r1 r2=>
    obtain ⟨rfl,rfl,rfl⟩:=ho
    exact new (l':=[]) ⟨none,0,0,rfl,rfl,aru _,by simp,fun _=>⟨rfl,rfl,rfl⟩,fun _=>rfl⟩ h1.symm h2.symm
 |agg cs=>cases hr
 |tuple cs=>cases hr
 |optr i v j off=>cases hr
 |fresh e l=>cases hr
 |undef=>exact plain hr
 |int k n=>exact plain hr
 |bool b=>exact plain hr
 |str s=>exact plain hr
 |ptr id off=>exact plain hr
 |aptr id n=>exact plain hr
 |eptr e x off=>exact plain hr
 |mp id=>exact plain hr
 |func f a b=>exact plain hr
 |iface t p=>exact plain hr
 |nilIface=>exact plain hr
 |nilPtr=>exact plain hr
 |nilFunc=>exact plain hr
theorem Z3 (h:Sim X c tm w σ g D): ∀ (rs:List (Nat×Option (Nat×Bool))) {K K':Kept U} {L:List (Ent U)} {l:List (Nat×PV U)},KI X c w g D K L->o8 σ rs K=some (l,K')->
  ∃L',KI X c w g D K' L'/\(∀x∈L,x∈L')/\(∀i∈K.read,i∈K'.read)/\ ∀n p,(n,p)∈l->RK X c w σ g D K' L' (tm.getD n undef) p:=by
 intro rs
 induction rs with
 |nil=>
  grind [o8]
 |cons nt rs ih=>
  intro K K' L l hK hr
  obtain ⟨n,t⟩:=nt
  simp only [o8] at hr
  split at hr
  case h_2=>cases hr
  rename_i v K1 hv
  split at hr
  case h_2=>cases hr
  rename_i l' K2 hl
  injection hr with hr
  injection hr with h1 h2
  subst h1;subst h2
  obtain ⟨L1,k1,k2,k3,k4⟩:=Qy h (h.regs n) hK hv
  obtain ⟨L2,m1,m2,m3,m4⟩:=ih k1 hl
  refine ⟨L2,m1,fun x hx=>m2 x (k2 x hx),fun i hi=>m3 i (k3 i hi),fun n' p hp=> ?_⟩
  rcases arR.1 hp with hp|hp
  ·injection hp with e1 e2
   subst e1;subst e2
   exact k4.mono m2 m3
  grind
theorem aE8 (h:Sim X c tm w σ g D): ∀ (ts:List (Option (Nat×Bool))) (cs:List (PV U)) (vs:Nat->Value) {K K':Kept U} {L:List (Ent U)} {l:List (PV U)},KI X c w g D K L->(∀ (j:Nat) p,cs[j]? =some p->Rep X w (c.N g D) g (vs j) p)->iW σ ts cs K=some (l,K')->
  ∃L',KI X c w g D K' L'/\(∀x∈L,x∈L')/\(∀i∈K.read,i∈K'.read)/\l.length=cs.length/\ ∀ (j:Nat) p,l[j]? =some p->RK X c w σ g D K' L' (vs j) p:=by
 intro ts
 induction ts with
 |nil=>
  grind [iW]
 |cons t ts ih=>
  intro cs vs K K' L l hK hc hr
  cases cs with
  |nil=>simp [iW] at hr
  |cons p cs=>
   simp only [iW] at hr
   split at hr
   case h_2=>cases hr
   rename_i v K1 hv
   split at hr
   case h_2=>cases hr
   rename_i l' K2 hl
   injection hr with hr
   injection hr with h1 h2
   subst h1;subst h2
   obtain ⟨L1,k1,k2,k3,k4⟩:=Qy h (hc 0 p rfl) hK hv
   obtain ⟨L2,m1,m2,m3,m5,m4⟩:=ih cs (fun j=>vs (j+1)) k1 (fun j p hp=>hc (j+1) p (by grind)) hl
   refine ⟨L2,m1,fun x hx=>m2 x (k2 x hx),fun i hi=>m3 i (k3 i hi),by simp [m5],fun j q hq=> ?_⟩
   cases j with
   |zero=>simp at hq;subst hq;exact k4.mono m2 m3
   |succ j=>grind
def BK (X:Link V P) (c:Ctx) (w:World) (σ:St U) (g:Gh U) (D:Nat->Option Nat) (K:Kept U) (L:List (Ent U)) (id:Nat):Box U->Prop
 | .cells cs=> ∃k cur e,g.μ id=some k/\w.heap[k]? =some (.cells cur e (0,0))/\TailOK cur cs.length (c.ο k)/\ ∀ (j:Nat) p,cs[j]? =some p->RK X c w σ g D K L (cur.getD j undef) p
 | .map e l=> ∃k,g.μ id=some k/\BoxOK X w (c.N g D) g (c.ο k) k (.map e l)
theorem BK.mono {K K':Kept U} {L L':List (Ent U)} {id:Nat} {b:Box U} (h:BK X c w σ g D K L id b) (hL: ∀x∈L,x∈L') (hK: ∀i∈K.read,i∈K'.read):BK X c w σ g D K' L' id b:=by
 cases b with
 |cells cs=>obtain ⟨k,cur,e,h1,h2,h3,h4⟩:=h;exact ⟨k,cur,e,h1,h2,h3,fun j p hp=>(h4 j p hp).mono hL hK⟩
 |map e l=>exact h
theorem aE6 (h:Sim X c tm w σ g D): ∀ (bx:List (Nat×List (Option (Nat×Bool)))) {K K':Kept U} {L:List (Ent U)} {l:List (Nat×Box U)},KI X c w g D K L->fO σ bx K=some (l,K')->
  ∃L',KI X c w g D K' L'/\(∀x∈L,x∈L')/\(∀i∈K.read,i∈K'.read)/\ ∀n b,(n,b)∈l->BK X c w σ g D K' L' n b:=by
 intro bx
 induction bx with
 |nil=>
  grind [fO]
 |cons nt bx ih=>
  intro K K' L l hK hr
  obtain ⟨n,ts⟩:=nt
  simp only [fO] at hr
  split at hr
  ·rename_i cs hcs
   split at hr
   case h_2=>cases hr
   rename_i cs' K1 hv
   split at hr
   case h_2=>cases hr
   rename_i l' K2 hl
   injection hr with hr
   injection hr with h1 h2
   subst h1;subst h2
   obtain ⟨k,hk,cur,e,b1,b2,b3⟩:=h.boxes _ _ hcs
   obtain ⟨L1,k1,k2,k3,k5,k4⟩:=aE8 h ts cs (fun j=>cur.getD j undef) hK b3 hv
   obtain ⟨L2,m1,m2,m3,m4⟩:=ih k1 hl
   refine ⟨L2,m1,fun x hx=>m2 x (k2 x hx),fun i hi=>m3 i (k3 i hi),fun n' b hb=> ?_⟩
   rcases arR.1 hb with hb|hb
   ·injection hb with e1 e2
    subst e1;subst e2
    exact ⟨k,cur,e,hk,b1,k5▸b2,fun j p hp=>(k4 j p hp).mono m2 m3⟩
   grind
  ·rename_i e l0 hcs
   split at hr
   case h_2=>cases hr
   rename_i l' K2 hl
   injection hr with hr
   injection hr with h1 h2
   subst h1;subst h2
   obtain ⟨k,hk,hbx⟩:=h.boxes _ _ hcs
   obtain ⟨L2,m1,m2,m3,m4⟩:=ih hK hl
   refine ⟨L2,m1,m2,m3,fun n' b hb=> ?_⟩
   rcases arR.1 hb with hb|hb
   ·injection hb with e1 e2
    subst e1;subst e2
    exact ⟨k,hk,hbx⟩
   grind
  grind
end
section
variable {U:Uni} {V:Env U} {P:Program} {X:Link V P} {c:Ctx} {tm:Array Value} {w:World} {σ:St U} {g:Gh U} {D:Nat->Option Nat}
theorem uQ {α:Type}: ∀ {l:List (Nat×α)} {n:Nat} {x:α},cq l n=some x->(n,x)∈l:=by
 intro l
 induction l with
 |nil=>intro n x h;cases h
 |cons a l ih=>
  grind [iD]
theorem Fj {α:Type}: ∀ {l:List (Nat×α)} {n:Nat},cq l n=none-> ∀x,(n,x)∉l:=by
 intro l
 induction l<;>grind [iD]
theorem D8: ∀ {l:List Nat},lM l=true->l.Nodup:=by
 intro l
 induction l with
 |nil=>simp
 |cons n r ih=>
  intro h
  simp only [lM,anZ,Bool.not_eq_true'] at h
  refine List.nodup_cons.2 ⟨fun hn=> ?_,ih h.2⟩
  have:r.any (aoy n)=true:=List.any_eq_true.2 ⟨n,hn,by simp⟩
  grind
theorem agU {α:Type} {l:List (Nat×α)} (h:(l.map (·.1)).Nodup) {n:Nat} {x y:α} (hx:(n,x)∈l) (hy:(n,y)∈l):x=y:=by
 induction l<;>grind
theorem ym (h:Sim X c tm w σ g D) {A:Ann} {τ:St U} (hc:dS A σ=some τ): ∃g' D',Sim X c tm w τ g' D':=by
 unfold dS at hc
 split at hc
 case h_2=>cases hc
 rename_i rs K1 hR
 split at hc
 case h_2=>cases hc
 rename_i bs K2 hB
 have h0:KI X c w g D (⟨[],[],[],[]⟩:Kept U) []:=⟨rfl,rfl,by simp,rfl,List.nodup_nil⟩
 obtain ⟨L1,k1,_,_,r1⟩:=Z3 h A.regs h0 hR
 obtain ⟨L,k2,m2,m3,b2⟩:=aE6 h A.boxes k1 hB
 have r2: ∀n p,(n,p)∈rs->RK X c w σ g D K2 L (tm.getD n undef) p:=fun n p hp=>(r1 n p hp).mono m2 m3
 cases hb:(!(K2.used.any fun i=>K2.read.any (aoy i))&&lM (K2.objs.map (·.1))&&(lM (bs.map (·.1))&&((PV.idsL (rs.map (·.2))++bs.flatMap (·.2.ids)).all fun i=>(bs.map (·.1)).any (aoy i)))) with
 |false=>grind
 |true=>
 rw [hb] at hc
 injection hc with hc
 subst hc
 simp only [anZ] at hb
 obtain ⟨⟨hur,hdo⟩,hdb,hids⟩:=hb
 have hur': ∀i,i∈K2.used->i∉K2.read:=by
  simp_all
 have hdo':(L.map (·.j)).Nodup:=by
  have:=D8 hdo
  rw [k2.objs,List.map_map] at this
  exact this
 have hdb':=D8 hdb
 have hids': ∀i,(i∈PV.idsL (rs.map (·.2))\/i∈bs.flatMap (·.2.ids))->i∈bs.map (·.1):=by
  intro i hi
  have:=ars.1 hids i (arH.2 hi)
  simp_all
 have huniq: ∀x∈L,∀y∈L,x.j=y.j->x=y:=by
  intro x hx y hy hxy
  have hn:(L.map fun x=>(x.j,x)).map (·.1)=L.map (·.j):=by simp
  exact agU (l:=L.map fun x=>(x.j,x)) (by grind) (art.2 ⟨x,hx,rfl⟩) (art.2 ⟨y,hy,by rw [hxy]⟩)
 let ent:Nat->Option (Ent U):=fun j=>L.find? fun x=>x.j==j
 have ent_mem: ∀x∈L,ent x.j=some x:=by
  intro x hx
  cases hf:ent x.j<;>grind
 have ent_some: ∀j x,ent j=some x->x∈L/\x.j=j:=fun j x hx=>⟨List.mem_of_find?_eq_some hx,by grind⟩
 let g':Gh U:={μ:=fun id=>if id∈bs.map (·.1) then g.μ id else none,κ:=fun j=>(ent j).map fun x=>(0,x.e,x.val)}
 let D':Nat->Option Nat:=fun j=>(ent j).bind (·.Do)
 have hD': ∀j b,D' j=some b-> ∃x∈L,x.j=j/\x.Do=some b/\ ∃i,x.src=some i/\D i=some b:=by
  intro j b hj
  cases he:ent j with
  |none=>grind
  |some x=>
   obtain ⟨hx,hxj⟩:=ent_some j x he
   have hDo:x.Do=some b:=by grind
   exact ⟨x,hx,hxj,hDo,(k2.ok x hx).2 b hDo⟩
 have hN: ∀b o,b<w.heap.size->(c.N g' D') b o->(c.N g D) b o:=by
  rintro b o _ (hn|⟨id,hid⟩|⟨j,hj⟩)
  ·exact .inl hn
  ·simp only [g'] at hid
   split at hid
   ·exact .inr (.inl ⟨id,hid⟩)
   grind
  ·obtain ⟨x,_,_,_,i,_,hi⟩:=hD' j b hj
   exact .inr (.inr ⟨i,hi⟩)
 have hw: ∀b o,b<w.heap.size-> ¬ (c.N g D) b o->w.cell? ⟨b,o,none⟩=w.cell? ⟨b,o,none⟩:=fun _ _ _ _=>rfl
 have src_used: ∀x∈L,∀i,x.src=some i->i∈K2.used:=by
  intro x hx i hi
  rw [k2.used]
  grind
 have src_inj: ∀x∈L,∀y∈L,∀i,x.src=some i->y.src=some i->x=y:=by
  have hnd:=k2.nodup
  rw [k2.used] at hnd
  intro x hx y hy i hxi hyi
  clear_value g' D'
  clear ent_mem ent_some hD' hN huniq hdo' r2 r1 b2 k2 m2 src_used
  induction L<;>grind
 have hrep: ∀v p,RK X c w σ g D K2 L v p->(∀i∈p.ids,i∈bs.map (·.1))->Rep X w (c.N g' D') g' v p:=by
  intro v p hv hi
  rcases hv with ⟨x,hx,rfl,rfl⟩|⟨i,ob,u,hir,hob,rfl,hO⟩|⟨hn,hr⟩
  ·have hO:=(k2.ok x hx).1
   obtain ⟨A,n,cp,hv,_⟩:=hO.val
   exact .own x.j 0 _ 0 x.e x.val (by grind) (aru _) (fun _=>rfl) ⟨A,n,cp,hv⟩
  ·have hplain: ∀ {v:Value} {e:U.E} {x:U.El e} {k:Nat} {p:PV U},(V.cells e x)[k]? =some p->Rep X w (c.N g D) g v p->Rep X w (c.N g' D') g' v p:=
    fun hp hr=>hr.plain hw hN (X.eplain hp).1 (by rw [(X.eplain hp).2];simp)
   refine ObOK.rep (u:= .read) ?_
   obtain ⟨A,n,cp,h1,h2,h3,h4,h5⟩:=hO.val
   refine ⟨A,n,cp,h1,h2,h3,fun j x hx k p hp=> ?_,by simp⟩
   obtain ⟨b,v',hA,hcell,hr,hn⟩:=h4 j x hx k p hp
   refine ⟨b,v',hA,hcell,hplain hp hr,fun _=> ?_⟩
   have hlt:=World.block_lt_of_cell? w _ hcell
   rw [Addr.add_block] at hlt
   cases hDi:D i with
   |none=>grind
   |some b'=>
    rw [hDi] at h5
    obtain ⟨_,cur,hA',_⟩:=h5
    rw [hA] at hA'
    injection hA' with hA'
    subst hA'
    rintro (hn'|⟨id,hid⟩|⟨q,hq⟩)
    ·have h6:=c.n0 _ _ hn'
     rcases (h.dnew i b' hDi).2 with h7|h7<;>grind
    ·simp only [g'] at hid
     split at hid
     ·exact h.dbox i id b' hDi hid
     grind
    ·obtain ⟨y,hy,_,_,i',hi',hDi'⟩:=hD' q b' hq
     have:=h.dinj _ _ _ hDi' hDi
     grind
  ·exact hr.plain hw hN hn fun i hi' b hb=>by grind
 have hplain: ∀ {v:Value} {e:U.E} {x:U.El e} {k:Nat} {p:PV U},(V.cells e x)[k]? =some p->Rep X w (c.N g D) g v p->Rep X w (c.N g' D') g' v p:=
  fun hp hr=>hr.plain hw hN (X.eplain hp).1 (by rw [(X.eplain hp).2];simp)
 have hlook: ∀id b,cq bs id=some b->id∈bs.map (·.1):=fun id b hb=>List.mem_map_of_mem (f:=(·.1)) (uQ hb)
 refine ⟨g',D',{nt:=h.nt,regs:=fun n=> ?_,boxes:=fun id b hb=> ?_,dom:=fun id k hk=> ?_,inj:=fun id id' k hk hk'=> ?_,new:=fun id k hk=> ?_,objs:=fun j ob ho=> ?_,nobj:=fun j ho=> ?_,dinj:=fun j j' b hb hb'=> ?_,dnew:=fun j b hb=> ?_,dbox:=fun j id b hb hm=> ?_,ext:=h.ext,gl:=h.gl,fix:=fun id k hk=> ?_}⟩
 ·unfold St.r
  simp only
  cases hl:cq rs n with
  |none=>exact .undef _
  |some p=>
   have hm:=uQ hl
   grind [List.mem_iff_getElem?,List.mem_map_of_mem,fj]
 ·have hb':cq bs id=some b:=hb
  have hm:=uQ hb'
  have hbk:=b2 id b hm
  have hin:=hlook id b hb'
  cases b with
  |cells cs=>
   obtain ⟨k,cur,e,q1,q2,q3,q4⟩:=hbk
   refine ⟨k,by grind,cur,e,q2,q3,fun j p hp=>hrep _ _ (q4 j p hp) fun i hi=>hids' i (.inr ?_)⟩
   grind [Box.ids,fj]
  |map e l=>
   obtain ⟨k,q1,en,cl,q2,q3,q4⟩:=hbk
   refine ⟨k,by grind,en,cl,q2,q3,fun j x t hx=> ?_⟩
   grind
 ·simp only [g'] at hk
  split at hk
  ·rename_i hin
   cases hl:cq bs id with
   |none=>
    grind [Fj]
   |some b=>exact ⟨b,hl⟩
  grind
 ·simp only [g'] at hk hk'
  split at hk<;>split at hk'<;>first|cases hk|cases hk'|exact h.inj _ _ _ hk hk'
 ·simp only [g'] at hk
  split at hk
  ·exact h.new id k hk
  grind
 ·have ho':cq K2.objs j=some ob:=ho
  have hm:=uQ ho'
  rw [k2.objs] at hm
  obtain ⟨x,hx,hx1⟩:=art.1 hm
  injection hx1 with e1 e2
  subst e1;subst e2
  have hu:cq K2.uses x.j=some x.u:=by
   cases hl:cq K2.uses x.j with
   |none=>exact absurd (by rw [k2.uses];grind) (Fj hl x.u)
   |some u'=>
    have hm':=uQ hl
    rw [k2.uses] at hm'
    grind
  have hO:=(k2.ok x hx).1
  refine ⟨x.val,by grind, ?_⟩
  have hu':(⟨rs,bs,K2.objs,K2.uses⟩:St U).u x.j=x.u:=by grind [St.u]
  have hDe:D' x.j=x.Do:=by grind
  rw [hu',hDe]
  obtain ⟨A,n,cp,h1,h2,h3,h4,h5⟩:=hO.val
  refine ⟨A,n,cp,h1,h2,h3,fun j x' hx' k p hp=> ?_,h5⟩
  grind [World.block_lt_of_cell?,Addr.add_block]
 ·have hnone:ent j=none:=by
   cases he:ent j with
   |none=>rfl
   |some x=>
    obtain ⟨hx,hxj⟩:=ent_some j x he
    have ho':cq K2.objs j=none:=ho
    exact absurd (by rw [k2.objs];grind) (Fj ho' ⟨0,x.e,x.l⟩)
  grind
 ·obtain ⟨x,hx,hxj,_,i,hi,hDi⟩:=hD' j b hb
  obtain ⟨y,hy,hyj,_,i',hi',hDi'⟩:=hD' j' b hb'
  have:=h.dinj _ _ _ hDi hDi'
  grind
 ·obtain ⟨_,_,_,_,i,_,hi⟩:=hD' j b hb
  exact h.dnew i b hi
 ·obtain ⟨_,_,_,_,i,_,hi⟩:=hD' j b hb
  simp only [g'] at hm
  split at hm
  ·exact h.dbox i id b hi hm
  grind
 ·simp only [g'] at hk
  split at hk
  ·exact h.fix id k hk
  grind
end
section
variable {U:Uni} {V:Env U} {P:Program} (X:Link V P)
def gB (U:Uni) (n:Nat) (ν:Nat->Nat):Gh U:=⟨fun k=>if k<n then some (ν k) else none,fun _=>none⟩
def NB (N0:aN) (n:Nat) (ν:Nat->Nat) (δ:Nat->Option Nat):aN:=fun b o=>N0 b o\/(∃k,k<n/\ν k=b)\/(∃j,δ j=some b)
def RepG (w:World) (N:aN) (g:Gh U) (v:Value) (Do:Option Nat):PV U->Prop
 | .fresh e l=>ObOK X w N g e l v .wr Do
 |p=>Rep X w N g v p
def RepR (w:World) (N:aN) (g:Gh U) (v:Value) (δ:Nat->Option Nat):PV U->Prop
 | .tuple ps=> ∃vs:Array Value,v= .tuple vs/\vs.size=ps.length/\ ∀ (j:Nat) p,ps[j]? =some p->RepG X w N g (vs.getD j undef) (δ j) p
 |p=>RepG X w N g v (δ 0) p
structure Bnd (w:World) (N0:aN) (n:Nat) (ν:Nat->Nat) (δ:Nat->Option Nat):Prop where
 inj: ∀i j,i<n->j<n->ν i=ν j->i=j
 lt: ∀i,i<n->ν i<w.heap.size
 dlt: ∀j b,δ j=some b->b<w.heap.size
 dinj: ∀i j b,δ i=some b->δ j=some b->i=j
 dν: ∀j b,δ j=some b-> ∀i,i<n->ν i≠b
 n0: ∀b o,N0 b o->b<w.heap.size/\(∀i,i<n->ν i≠b)/\ ∀j,δ j≠some b
structure Given (w:World) (vs:Array Value) (N0:aN) (ν:Nat->Nat) (δ:Nat->Option Nat) (ο:Nat->Array Value) (args:List (PV U)) (boxes:List (Box U)):Prop where
 bnd:Bnd w N0 boxes.length ν δ
 size:vs.size=args.length
 dom: ∀j b,δ j=some b->j<args.length
 glob: ∀b o,(b,o)∈X.gblk->w.heap[b]? =some o/\(∀i,i<boxes.length->ν i≠b)/\ ∀j,δ j≠some b
 args: ∀ (j:Nat) p,args[j]? =some p->RepG X w (NB N0 boxes.length ν δ) (gB U boxes.length ν) (vs.getD j undef) (δ j) p
 boxes: ∀ (k:Nat) b,boxes[k]? =some b->BoxOK X w (NB N0 boxes.length ν δ) (gB U boxes.length ν) (ο (ν k)) (ν k) b
 oz: ∀b,w.heap.size<=b->ο b= #[]
def avg (n m:Nat) (ν:Nat->Nat) (δ:Nat->Option Nat):List Nat:=(ar3 n).map ν++(ar3 m).filterMap δ
structure Back (w w':World) (N0:aN) (ν:Nat->Nat) (δ:Nat->Option Nat) (ο:Nat->Array Value) (n m:Nat) (ν':Nat->Nat) (δ':Nat->Option Nat) (cs:List (Box U)):Prop where
 ext:Ext (avg n m ν δ) w w'
 le:n<=cs.length
 old: ∀i,i<n->ν' i=ν i
 new: ∀i,n<=i->i<cs.length->w.heap.size<=ν' i
 dnew: ∀j b,δ' j=some b->w.heap.size<=b\/ ∃i,δ i=some b
 bnd:Bnd w' N0 cs.length ν' δ'
 boxes: ∀ (k:Nat) b,cs[k]? =some b->BoxOK X w' (NB N0 cs.length ν' δ') (gB U cs.length ν') (ο (ν' k)) (ν' k) b
def Ret (w:World) (N0:aN) (ν:Nat->Nat) (δ:Nat->Option Nat) (ο:Nat->Array Value) (n m:Nat) (out:Out U):Ending->World->Prop
 | .returned rv,w'=>match out with
  | .ret v cs=> ∃ν' δ',Back X w w' N0 ν δ ο n m ν' δ' cs/\RepR X w' (NB N0 cs.length ν' δ') (gB U cs.length ν') rv δ' v
  | .panic _ _=>False
 | .panicked chain,w'=>match out with
  | .ret _ _=>False
  | .panic v cs=>cs.length=n/\ ∃val,chain=[{v:=val,recovered:=false}]/\Back X w w' N0 ν δ ο n m ν (fun _=>none) cs/\Rep X w' (NB N0 n ν fun _=>none) (gB U n ν) val v
 | .outgrown,_=>False
def jS (CP:FuncId->Array Value->World->(Ending->World->Prop)->Prop):cj U:=fun f args boxes out=>
 (∃fn,P.funcs[f]? =some fn/\(fn.name== "runtime.NumGoroutine")=false/\fn.body.isNone=false)/\
 ∀ (w:World) (vs:Array Value) (N0:aN) (ν:Nat->Nat) (δ:Nat->Option Nat) (ο:Nat->Array Value),Given X w vs N0 ν δ ο args boxes->CP f vs w (Ret X w N0 ν δ ο boxes.length args.length (out.full boxes))
def ci:cj U:=fun f args boxes out=>
 (∃fn,P.funcs[f]? =some fn/\(fn.name== "runtime.NumGoroutine")=false/\fn.body.isNone=false)/\
 ∀ (w:World) (vs:Array Value) (N0:aN) (ν:Nat->Nat) (δ:Nat->Option Nat) (ο:Nat->Array Value),Given X w vs N0 ν δ ο args boxes->Calls P f vs w (Ret X w N0 ν δ ο boxes.length args.length (out.full boxes))
theorem Ret.full {X:Link V P} {w:World} {N0:aN} {ν:Nat->Nat} {δ:Nat->Option Nat} {ο:Nat->Array Value} {boxes:List (Box U)} {m:Nat} {out:Out U} {e:Ending} {w':World} (h:Ret X w N0 ν δ ο boxes.length m out e w'):Ret X w N0 ν δ ο boxes.length m (out.full boxes) e w':=by
 cases out with
 |panic v cs=>exact h
 |ret v cs=>
  cases e with
  |returned rv=>
   obtain ⟨ν',δ',hb,hr⟩:=id h
   have:arq boxes.length cs.length=true:=by simpa using hb.le
   grind [Out.full]
  |panicked ch=>exact h.elim
  |outgrown=>exact h.elim
variable {X} {c:Ctx} {tm:Array Value} {w:World} {σ:St U} {g:Gh U} {D:Nat->Option Nat}
theorem Sim.move (h:Sim X c tm w σ g D) {w':World} {σ':St U} {g':Gh U} {D':Nat->Option Nat} (chB chO:Nat->Prop)
  (hos:w'.os=w.os) (htape:w'.tape=w.tape) (hout:w'.output=w.output) (hsize:w.heap.size<=w'.heap.size)
  (hblk: ∀b,b<w.heap.size->(∀id,chB id->g.μ id≠some b)->(∀j,chO j->D j≠some b)->w'.heap[b]? =w.heap[b]?)
  (hr: ∀n,σ'.r n=σ.r n) (hle:g.le g')
  (hμ: ∀id k,g'.μ id=some k->g.μ id=some k\/(g.μ id=none/\w.heap.size<=k/\k<w'.heap.size))
  (hfix: ∀id k,g.μ id=none->g'.μ id=some k->c.fix id=none)
  (hμinj: ∀id id' k,g.μ id=none->g'.μ id=some k->g'.μ id'=some k->id=id')
  (hbold: ∀id,¬chB id->σ'.b id=σ.b id/\g'.μ id=g.μ id)
  (hbnew:(∀v p,Rep X w (c.N g D) g v p->Rep X w' (c.N g' D') g' v p)-> ∀id b,chB id->σ'.b id=some b-> ∃k,g'.μ id=some k/\BoxOK X w' (c.N g' D') g' (c.ο k) k b)
  (hbdom: ∀id k,chB id->g'.μ id=some k-> ∃b,σ'.b id=some b)
  (hD: ∀j b,D' j=some b->(¬chO j/\D j=some b)\/((∃i,chO i/\D i=some b)\/(w.heap.size<=b/\b<w'.heap.size)))
  (hdinj: ∀j j' b,chO j->D' j=some b->D' j'=some b->j=j')
  (hDμ: ∀j b,chO j->D' j=some b-> ∀id,g'.μ id≠some b)
  (hold: ∀j,¬chO j->σ'.o j=σ.o j/\σ'.u j=σ.u j/\D' j=D j/\g'.κ j=g.κ j)
  (hobj: ∀j ob,chO j->σ'.o j=some ob-> ∃val,g'.κ j=some (ob.ver,ob.e,val)/\ObOK X w' (c.N g' D') g' ob.e ob.l val (σ'.u j) (D' j))
  (hnobj: ∀j,chO j->σ'.o j=none->g'.κ j=none/\D' j=none):Sim X c tm w' σ' g' D':=by
 have hNold: ∀b o,b<w.heap.size->(c.N g' D') b o->(c.N g D) b o:=by
  rintro b o hlt (hn|⟨id,hid⟩|⟨j,hj⟩)
  ·exact .inl hn
  ·rcases hμ id b hid with h1|⟨_,h1,_⟩
   ·exact .inr (.inl ⟨id,h1⟩)
   ·omega
  ·rcases hD j b hj with ⟨_,hj'⟩|⟨i,_,hi⟩|hk
   ·exact .inr (.inr ⟨j,hj'⟩)
   ·exact .inr (.inr ⟨i,hi⟩)
   ·omega
 have hw: ∀b o,b<w.heap.size-> ¬ (c.N g D) b o->w'.cell? ⟨b,o,none⟩=w.cell? ⟨b,o,none⟩:=fun b o hlt hn=>by
  unfold World.cell?
  rw [hblk b hlt (fun id _ hid=>hn (.inr (.inl ⟨id,hid⟩))) fun j _ hj=>hn (.inr (.inr ⟨j,hj⟩))]
 exact
  {nt:=h.nt
   regs:=fun n=>by rw [hr];exact (h.regs n).mono X hw hNold hle
   boxes:=fun id b hb=>by
    by_cases hc:chB id
    ·exact hbnew (fun v p hp=>hp.mono X hw hNold hle) id b hc hb
    ·obtain ⟨h1,h2⟩:=hbold id hc
     rw [h1] at hb
     obtain ⟨k,hk,hbox⟩:=h.boxes id b hb
     exact ⟨k,h2▸hk,hbox.mono (hblk k (h.new id k hk).1 (fun id' hc' hid'=>hc (h.inj _ _ _ hk hid'▸hc')) fun j _ hj=>h.dbox j id k hj hk) hw hNold hle⟩
   dom:=fun id k hk=>by
    by_cases hc:chB id
    ·grind
    ·obtain ⟨h1,h2⟩:=hbold id hc
     rw [h1];exact h.dom id k (h2▸hk)
   inj:=fun id id' k hk hk'=>by
    rcases hμ id k hk with h1|⟨h1,_⟩
    ·rcases hμ id' k hk' with h2|⟨h2,_⟩
     ·exact h.inj _ _ _ h1 h2
     grind
    grind
   new:=fun id k hk=>by
    rcases hμ id k hk with h1|⟨_,h1,h2⟩
    ·have:=h.new id k h1;grind
    ·exact ⟨h2,.inr (arA h.ext.size h1)⟩
   objs:=fun j ob ho=>by
    by_cases hj:chO j
    ·grind
    ·obtain ⟨h1,h2,h3,h4⟩:=hold j hj
     rw [h1] at ho
     obtain ⟨val,hk,hob⟩:=h.objs j ob ho
     rw [h2,h3,h4]
     exact ⟨val,hk,hob.mono (fun k hk=>hblk k (h.dnew j k hk).1 (fun id _ hid=>h.dbox j id k hk hid) fun i hi hi'=>hj (h.dinj _ _ _ hi' hk▸hi)) hw hNold hle⟩
   nobj:=fun j ho=>by
    by_cases hj:chO j
    ·grind
    ·obtain ⟨h1,h2,h3,h4⟩:=hold j hj
     rw [h3,h4];exact h.nobj j (h1▸ho)
   dinj:=fun j j' b hb hb'=>by
    by_cases hj:chO j
    ·grind
    ·by_cases hj':chO j'
     ·grind
     ·rw [(hold j hj).2.2.1] at hb;rw [(hold j' hj').2.2.1] at hb'
      exact h.dinj _ _ _ hb hb'
   dnew:=fun j b hb=>by
    rcases hD j b hb with ⟨_,hj'⟩|⟨i,_,hi⟩|hk
    ·have:=h.dnew j b hj';grind
    ·have:=h.dnew i b hi;grind
    ·exact ⟨hk.2,.inr (arA h.ext.size hk.1)⟩
   dbox:=fun j id b hb hm=>by
    by_cases hj:chO j
    ·grind
    ·rw [(hold j hj).2.2.1] at hb
     rcases hμ id b hm with h1|⟨_,h1,_⟩
     ·exact h.dbox j id b hb h1
     ·have:=(h.dnew j b hb).1;omega
   ext:=⟨hos.trans h.ext.os,htape.trans h.ext.tape,hout.trans h.ext.output,arA h.ext.size hsize,fun b hlt hn=>by
    rw [hblk b (Nat.lt_of_lt_of_le hlt h.ext.size) (fun id _ hid=>by
     rcases (h.new id b hid).2 with h1|h1<;>grind) fun j _ hj=>by
     rcases (h.dnew j b hj).2 with h1|h1<;>grind]
    exact h.ext.block b hlt hn⟩
   gl:=h.gl
   fix:=fun id k hk=>by
    rcases hμ id k hk with h1|⟨h1,h2,_⟩
    ·exact h.fix id k h1
    ·exact .inr ⟨hfix id k h1 hk,arA h.ext.size h2⟩}
end
section
variable {U:Uni} {V:Env U} {P:Program} {X:Link V P} {K:cj U} {c:Ctx} {tm:Array Value} {w:World} {σ:St U} {g:Gh U} {D:Nat->Option Nat}
variable {r:MR U} {τ:St U} {fp gp:List Loc} {N:aN}
theorem atk (keep:Bool) (ρ:Nat->Nat): ∀ (cs:List (PV U)),PV.renL keep ρ cs=cs.map (PV.ren keep ρ):=by
 intro cs
 induction cs<;>grind [PV.renL]
theorem Rep.ren {w':World} {N N':aN} {g g':Gh U} {v:Value} {p:PV U} (h:Rep X w N g v p) (keep:Bool) (ρ:Nat->Nat) (hw: ∀b o,b<w.heap.size-> ¬N b o->w'.cell? ⟨b,o,none⟩=w.cell? ⟨b,o,none⟩) (hN: ∀b o,b<w.heap.size->N' b o->N b o)
  (hno:p.noObj=true\/ ∀i,g.κ i=none) (hμ: ∀i,i∈p.ids-> ∀b,g.μ i=some b->g'.μ (ρ i)=some b):Rep X w' N' g' v (p.ren keep ρ):=by
 have hcell: ∀a v,w.cell? a=some v-> ¬N a.block a.off->w'.cell? a=some v/\ ¬N' a.block a.off:=by
  grind [World.block_lt_of_cell?,yo]
 have hel: ∀ {v:Value} {e:U.E} {x:U.El e} {k:Nat} {p:PV U},(V.cells e x)[k]? =some p->Rep X w N g v p->Rep X w' N' g' v p:=fun hp hr=>hr.plain hw hN (X.eplain hp).1 (by rw [(X.eplain hp).2];simp)
 induction h with
 |undef v=>exact .undef v
 |int k n=>exact .int k n
 |bool b=>exact .bool b
 |str s=>exact .str s
 |sl A n cp e l o val hl hc ho h1 h2 ih=>
  have base: ∀o',(match o' with| .none=>True| .full=>n=cp| .nil=>A=none/\n=0/\cp=0| .void=>A=none| .sure=>A≠none)->Rep X w' N' g' (.slice A n cp) (.sl e l o'):=fun o' ho'=>by
   refine .sl A n cp e l o' val hl hc ho' (fun j x hx k p hp=> ?_) fun j x hx k p hp=>hel hp (h2 j x hx k p hp)
   grind [Addr.add_block,Addr.add_off]
  cases o with
  |none=>exact base .none trivial
  |full=>cases keep with
   |true=>exact base .full ho
   |false=>exact base .none trivial
  |void=>exact base .void ho
  |sure=>exact base .sure ho
  |nil=>cases keep with
   |true=>exact base .nil ho
   |false=>exact base .none trivial
 |own i v val ver e val' hk hv he hs=>
  grind [PV.noObj]
 |agg vs cs hl h ih=>
  simp only [PV.ren,atk]
  refine .agg vs _ (by grind) fun j p hp=> ?_
  grind [at0,PV.noObj,PV.ids,fj]
 |tuple vs cs hl h ih=>
  simp only [PV.ren,atk]
  refine .tuple vs _ (by grind) fun j p hp=> ?_
  grind [at0,PV.noObj,PV.ids,fj]
 |ptr id off b hb=>exact .ptr _ off b (hμ id (by simp [PV.ids]) b hb)
 |aptr id n b hb hn=>exact .aptr _ n b (hμ id (by simp [PV.ids]) b hb) hn
 |mp id b hb=>exact .mp _ b (hμ id (by simp [PV.ids]) b hb)
 |eptr e x off a val h1 h2 ih=>
  refine .eptr e x off a val (fun k p hp=> ?_) fun k p hp=>hel hp (h2 k p hp)
  grind [Addr.add_block,Addr.add_off]
 |optr i v j off val ver e val' hk hv he hs=>
  grind [PV.noObj]
 |func f a0s bs vs us ha hb h1 h2 i1 i2=>
  simp only [PV.ren,atk]
  refine .func f _ _ vs us (by grind) (by grind) (fun j p hp=> ?_) fun j p hp=> ?_
  all_goals grind [at0,PV.noObj,PV.ids,fj]
 |iface t v p h ih=>exact .iface t v _ (ih (hno.imp (fun h=>by simpa [PV.noObj] using h) id) fun i hi=>hμ i (by grind [PV.ids]))
 |nilIface=>exact .nilIface
 |nilPtr=>exact .nilPtr
 |nilFunc=>exact .nilFunc
theorem BoxOK.ren {w':World} {N N':aN} {g g':Gh U} {t:Array Value} {k:Nat} {b:Box U} (h:BoxOK X w N g t k b) (keep:Bool) (ρ:Nat->Nat) (hk:w'.heap[k]? =w.heap[k]?) (hw: ∀b o,b<w.heap.size-> ¬N b o->w'.cell? ⟨b,o,none⟩=w.cell? ⟨b,o,none⟩) (hN: ∀b o,b<w.heap.size->N' b o->N b o)
  (hno:b.noObj=true\/ ∀i,g.κ i=none) (hμ: ∀i,i∈b.ids-> ∀b,g.μ i=some b->g'.μ (ρ i)=some b):BoxOK X w' N' g' t k (b.ren keep ρ):=by
 cases b with
 |cells cs=>
  obtain ⟨cur,e,h1,h2,h3⟩:=h
  simp only [Box.ren,atk]
  refine ⟨cur,e,hk▸h1,by rw [List.length_map];exact h2,fun j p hp=> ?_⟩
  simp only [List.getElem?_map,Option.map_eq_some_iff] at hp
  obtain ⟨q,hq,rfl⟩:=hp
  exact (h3 j q hq).ren keep ρ hw hN (hno.imp (fun h=>at0 (by simpa [Box.noObj] using h) hq) id) fun i hi=>hμ i (by grind [Box.ids,fj])
 |map e l=>
  obtain ⟨en,cl,h1,h2,h3⟩:=h
  refine ⟨en,cl,hk▸h1,h2,fun j x t hx=> ?_⟩
  obtain ⟨m,vs,a,b,d,e,f⟩:=h3 j x t hx
  exact ⟨m,vs,a,b,d,e,fun k p hp=>(f k p hp).plain hw hN (X.eplain hp).1 (by rw [(X.eplain hp).2];simp)⟩
theorem aHM (ρ:Nat->Nat): ∀ (ks:List Bool) (cs:List (PV U)) (j:Nat),(PV.renK ρ ks cs)[j]? =(cs[j]?).map (PV.ren (ks.getD j false) ρ):=by
 intro ks
 induction ks with
 |nil=>intro cs j;simp [PV.renK,atk]
 |cons k ks ih=>
  intro cs j
  cases cs with
  |nil=>simp [PV.renK,PV.renL]
  |cons v r=>
   cases j with
   |zero=>simp [PV.renK]
   |succ j=>simpa [PV.renK] using ih r j
theorem aHN (ρ:Nat->Nat): ∀ (ks:List Bool) (cs:List (PV U)),(PV.renK ρ ks cs).length=cs.length:=by
 intro ks
 induction ks with
 |nil=>intro cs;simp [PV.renK,atk]
 |cons k ks ih=>
  intro cs
  cases cs with
  |nil=>simp [PV.renK,PV.renL]
  |cons v r=>simp [PV.renK,ih r]
theorem BoxOK.renK {w':World} {N N':aN} {g g':Gh U} {t:Array Value} {k:Nat} {b:Box U} (h:BoxOK X w N g t k b) (ks:List Bool) (ρ:Nat->Nat) (hk:w'.heap[k]? =w.heap[k]?) (hw: ∀b o,b<w.heap.size-> ¬N b o->w'.cell? ⟨b,o,none⟩=w.cell? ⟨b,o,none⟩) (hN: ∀b o,b<w.heap.size->N' b o->N b o)
  (hno:b.noObj=true\/ ∀i,g.κ i=none) (hμ: ∀i,i∈b.ids-> ∀b,g.μ i=some b->g'.μ (ρ i)=some b):BoxOK X w' N' g' t k (b.renK ks ρ):=by
 cases b with
 |cells cs=>
  obtain ⟨cur,e,h1,h2,h3⟩:=h
  refine ⟨cur,e,hk▸h1,by rw [aHN];exact h2,fun j p hp=> ?_⟩
  rw [aHM,Option.map_eq_some_iff] at hp
  obtain ⟨q,hq,rfl⟩:=hp
  exact (h3 j q hq).ren _ ρ hw hN (hno.imp (fun h=>at0 (by simpa [Box.noObj] using h) hq) id) fun i hi=>hμ i (by grind [Box.ids,fj])
 |map e l=>exact BoxOK.ren (b:= .map e l) h false ρ hk hw hN hno hμ
theorem ObOK.turn {w':World} {N N':aN} {g g':Gh U} {e:U.E} {l:List (U.El e)} {val:Value} {u:Use} {Do:Option Nat} (h:ObOK X w N g e l val u Do) (hk: ∀b,Do=some b->w'.heap[b]? =w.heap[b]?)
  (hw: ∀b o,b<w.heap.size-> ¬N b o->w'.cell? ⟨b,o,none⟩=w.cell? ⟨b,o,none⟩) (hN: ∀b o,b<w.heap.size->N' b o->N b o):ObOK X w' N' g' e l val u Do:=by
 obtain ⟨A,n,cp,hv,hl,hc,h1,h2⟩:=h.val
 refine ⟨A,n,cp,hv,hl,hc,fun j x hx k p hp=> ?_, ?_⟩
 ·obtain ⟨a,v,ha,hcell,hr,hn⟩:=h1 j x hx k p hp
  refine ⟨a,v,ha, ?_,hr.plain hw hN (X.eplain hp).1 (by rw [(X.eplain hp).2];simp),fun hD h'=> ?_⟩
  all_goals grind [World.cell?,Addr.add_block,Addr.add_off]
 grind
theorem KL: ∀ (gv:List Bool) (ps:List (PV U)) {σ:St U} {D:Nat->Option Nat} {k:List (PV U)->M U} {fp:List Loc},Sim X c tm w σ g D->(vs:Nat->Value)->(∀ (j:Nat) p,ps[j]? =some p->Rep X w (c.N g D) g (vs j) p)->(lQ gv ps k).Rel K σ fp r τ gp->
  ∃qs σ' D' fp',(k qs).Rel K σ' fp' r τ gp/\Frozen X c tm w g σ D σ' D'/\qs.length=ps.length/\(∀ (j:Nat) p,qs[j]? =some p->Rep X w (c.N g D') g (vs j) p):=by
 intro gv
 induction gv with
 |nil=>
  intro ps σ D k fp h vs hv hr
  simp only [lQ] at hr
  obtain ⟨qs,σ',D',fp',h1,h2,h3,h4,_⟩:=nr ps h vs hv hr
  grind
 |cons b gv ih=>
  intro ps σ D k fp h vs hv hr
  cases ps with
  |nil=>
   have hr':(k []).Rel K σ fp r τ gp:=by cases b<;>exact hr
   exact ⟨[],σ,D,fp,hr',.refl h,rfl,by simp⟩
  |cons p ps=>
   cases b with
   |true=>
    simp only [lQ] at hr
    obtain ⟨qs,σ',D',fp',h1,h2,h3,h4⟩:=ih ps h (fun j=>vs (j+1)) (fun j p hp=>hv (j+1) p (by grind)) hr
    refine ⟨p::qs,σ',D',fp',h1,h2,by simp [h3],fun j q hq=> ?_⟩
    cases j with
    |zero=>simp at hq;subst hq;exact h2.rep (hv 0 p rfl)
    |succ j=>grind
   |false=>
    simp only [lQ] at hr
    obtain ⟨q,σ1,D1,fp1,hr1,hF,hq,_⟩:=nu p h (hv 0 p rfl) hr
    obtain ⟨qs,σ',D',fp',h1,h2,h3,h4⟩:=ih ps hF.sim (fun j=>vs (j+1)) (fun j p hp=>hF.rep (hv (j+1) p (by grind))) hr1
    refine ⟨q::qs,σ',D',fp',h1,hF.trans h2,by simp [h3],fun j q' hq'=> ?_⟩
    cases j with
    |zero=>simp at hq';subst hq';exact h2.rep hq
    |succ j=>grind
theorem aF5 {b:Option (Box U)} {n:Nat} {cs:List (PV U)} (h:hdO n b=some cs): ∃all,b=some (.cells all)/\n<=all.length/\cs=all.take n:=by
 unfold hdO at h
 split at h
 ·rename_i all
  cases hc:arq n all.length with
  |false=>rw [hc] at h;cases h
  |true=>rw [hc] at h;injection h with h;exact ⟨all,rfl,Nat.le_of_ble_eq_true hc,h.symm⟩
 ·cases h
theorem aFY {q:Option Nat} {l:Nat}: ∀ (n:Nat) (todo:List Nat) (acc:List (Nat×Box U)) {k:List (Nat×Box U)->M U} {fp:List Loc},(∀x∈acc,∃b,σ.b x.1=some b/\b.cutIf (arz q x.1) l=some x.2)->(avF q l n todo acc k).Rel K σ fp r τ gp->
  ∃bs fp',(k bs).Rel K σ fp' r τ gp/\ ∀x∈bs,∃b,σ.b x.1=some b/\b.cutIf (arz q x.1) l=some x.2:=by
 intro n
 induction n with
 |zero=>intro todo acc k fp _ hr;exact hr.elim
 |succ n ih=>
  intro todo acc k fp hacc hr
  cases todo with
  |nil=>exact ⟨acc,fp,hr,hacc⟩
  |cons id todo=>
   simp only [avF] at hr
   split at hr
   ·exact ih _ _ hacc hr
   ·cases hs:arz q id with
    |false=>
     rw [hs] at hr
     simp only [cond_false,M.Rel] at hr
     split at hr
     ·rename_i b hb
      refine ih _ _ (fun x hx=> ?_) hr
      rcases arH.1 hx with hx|hx
      ·exact hacc x hx
      ·simp at hx;subst hx;exact ⟨b,hb,by rw [hs];rfl⟩
     ·exact hr.elim
    |true=>
     rw [hs] at hr
     simp only [cond_true,M.Rel] at hr
     split at hr
     ·rename_i cs hcs
      obtain ⟨all,hall,hle,rfl⟩:=aF5 hcs
      refine ih _ _ (fun x hx=> ?_) hr
      rcases arH.1 hx with hx|hx
      ·exact hacc x hx
      ·simp at hx;subst hx
       refine ⟨.cells all,hall, ?_⟩
       rw [hs]
       simp only [Box.cutIf,cond_true]
       rw [show arq l all.length=true from Nat.ble_eq_true_of_le hle];rfl
     ·exact hr.elim
theorem Box.glue_nil (b:Box U):b.glue []=b:=by cases b<;>simp [Box.glue]
theorem sameId_iff {q:Option Nat} {id:Nat}:arz q id=true↔q=some id:=by
 cases q<;>simp [arz]
def mG (X:Link V P) (w:World) (N:aN) (g:Gh U) (ο:Nat->Array Value) (x:Nat×Box U):Prop:= ∃k,g.μ x.1=some k/\BoxOK X w N g (ο k) k x.2
theorem Ew {ο:Nat->Array Value}: ∀ (bs:List (Nat×Box U)) {σ:St U} {D:Nat->Option Nat} {k:List (Nat×Box U)->M U} {fp:List Loc},Sim X c tm w σ g D->(∀x∈bs,mG X w (c.N g D) g ο x)->(il bs k).Rel K σ fp r τ gp->
  ∃qs σ' D' fp',(k qs).Rel K σ' fp' r τ gp/\Frozen X c tm w g σ D σ' D'/\qs.map (·.1)=bs.map (·.1)/\(∀x∈qs,mG X w (c.N g D') g ο x):=by
 intro bs
 induction bs with
 |nil=>intro σ D k fp h _ hr;exact ⟨[],σ,D,fp,hr,.refl h,rfl,by simp⟩
 |cons x bs ih=>
  obtain ⟨id,b⟩:=x
  intro σ D k fp h hb hr
  cases b with
  |cells cs=>
   simp only [il] at hr
   obtain ⟨kb,hk,cur,e,b1,b2,b3⟩:=hb (id,.cells cs) (by simp)
   obtain ⟨cs',σ1,D1,fp1,hr1,hF,hl,hcs,_⟩:=nr cs h (fun j=>cur.getD j undef) b3 hr
   obtain ⟨qs,σ',D',fp',h1,h2,h3,h4⟩:=ih hF.sim (fun x hx=>by
    obtain ⟨k,hk,hbx⟩:=hb x (by simp [hx])
    exact ⟨k,hk,hbx.mono rfl (fun _ _ _ _=>rfl) (fun b o _ hn=>by
     rcases hn with hn|hn|⟨i,hi⟩
     ·exact .inl hn
     ·exact .inr (.inl hn)
     ·exact .inr (.inr ⟨i,hF.D i b hi⟩)) (Gh.le.refl g)⟩) hr1
   refine ⟨(id,.cells cs')::qs,σ',D',fp',h1,hF.trans h2,by simp [h3],fun x hx=> ?_⟩
   rcases arR.1 hx with rfl|hx
   ·exact ⟨kb,hk,cur,e,b1,hl▸b2,fun j p hp=>h2.rep (hcs j p hp)⟩
   grind
  |map e l=>
   simp only [il] at hr
   obtain ⟨qs,σ',D',fp',h1,h2,h3,h4⟩:=ih h (fun x hx=>hb x (by simp [hx])) hr
   refine ⟨(id,.map e l)::qs,σ',D',fp',h1,h2,by simp [h3],fun x hx=> ?_⟩
   rcases arR.1 hx with rfl|hx
   ·obtain ⟨k,hk,hbx⟩:=hb (id,.map e l) (by simp)
    exact ⟨k,hk,hbx.mono rfl (fun _ _ _ _=>rfl) (fun b o _ hn=>by
     rcases hn with hn|hn|⟨i,hi⟩
     ·exact .inl hn
     ·exact .inr (.inl hn)
     ·exact .inr (.inr ⟨i,h2.D i b hi⟩)) (Gh.le.refl g)⟩
   grind
end
section
variable {U:Uni} {V:Env U} {P:Program} {X:Link V P} {K:cj U} {c:Ctx} {tm:Array Value} {w:World} {σ:St U} {g:Gh U} {D:Nat->Option Nat}
variable {r:MR U} {τ:St U} {fp gp:List Loc} {N:aN}
structure Spent (σ0 σ:St U) (G:List Nat):Prop where
 r: ∀n,σ.r n=σ0.r n
 b: ∀n,σ.b n=σ0.b n
 spent: ∀i∈G,∃ob,σ0.o i=some ob/\σ.o i=some ⟨ob.ver+1,ob.e,[]⟩/\σ.u i= .read
 other: ∀i,i∉G->σ.o i=σ0.o i/\σ.u i=σ0.u i
theorem Spent.refl (σ:St U):Spent σ σ []:=⟨fun _=>rfl,fun _=>rfl,by simp,fun _ _=>⟨rfl,rfl⟩⟩
theorem RepG.of {w:World} {g:Gh U} {v:Value} {p:PV U} (h:Rep X w N g v p):RepG X w N g v none p:=by
 cases p<;>first|exact h|cases h
theorem aiq {i:Nat} {ver:Nat} {w:World} {g:Gh U} {v:Value} (h:Rep X w N g v (.own i ver)) {nv:Nat} {e:U.E} {val:Value} (hk:g.κ i=some (nv,e,val)):ver<=nv:=by
 cases h<;>grind
theorem aip {w:World} {g:Gh U} {v:Value} {e:U.E} {l:List (U.El e)} (h:Rep X w N g v (.sl e l .nil)):v= .slice none 0 0:=by
 cases h<;>grind
theorem KR (h:Sim X c tm w σ g D): ∀ (gv:List Bool) (ps:List (PV U)) {σ1:St U} {G0:List Nat} {k:List (PV U)->M U} {fp:List Loc} (vs:Nat->Value),Spent σ σ1 G0->
  (∀ (j:Nat) p,ps[j]? =some p->Rep X w (c.N g D) g (vs j) p)->(kh gv ps k).Rel K σ1 fp r τ gp->
  ∃ (qs:List (PV U)) (σ':St U) (fp':List Loc) (G:List Nat) (δ:Nat->Option Nat),(k qs).Rel K σ' fp' r τ gp/\qs.length=ps.length/\Spent σ σ' (G++G0)/\(∀i∈G,i∉G0)/\(∀j b,δ j=some b->j<ps.length/\ ∃i∈G,D i=some b)/\
   (∀i j b,δ i=some b->δ j=some b->i=j)/\ ∀ (j:Nat) q,qs[j]? =some q->RepG X w (c.N g D) g (vs j) (δ j) q:=by
 intro gv
 have pass: ∀ (ps:List (PV U)) {σ1:St U} {G0:List Nat} {k:List (PV U)->M U} {fp:List Loc} (vs:Nat->Value),Spent σ σ1 G0->
   (∀ (j:Nat) p,ps[j]? =some p->Rep X w (c.N g D) g (vs j) p)->(k ps).Rel K σ1 fp r τ gp-> ∃ (qs:List (PV U)) (σ':St U) (fp':List Loc) (G:List Nat) (δ:Nat->Option Nat),(k qs).Rel K σ' fp' r τ gp/\qs.length=ps.length/\Spent σ σ' (G++G0)/\(∀i∈G,i∉G0)/\(∀j b,δ j=some b->j<ps.length/\ ∃i∈G,D i=some b)/\
   (∀i j b,δ i=some b->δ j=some b->i=j)/\ ∀ (j:Nat) q,qs[j]? =some q->RepG X w (c.N g D) g (vs j) (δ j) q:=by
  intro ps σ1 G0 k fp vs hs hv hr
  refine ⟨ps,σ1,fp,[],fun _=>none,hr,rfl,hs,by simp,by simp,by simp,fun j q hq=> ?_⟩
  exact RepG.of (hv j q hq)
 induction gv with
 |nil=>intro ps σ1 G0 k fp vs hs hv hr;exact pass ps vs hs hv (by cases ps<;>exact hr)
 |cons b gv ih=>
  intro ps σ1 G0 k fp vs hs hv hr
  cases ps with
  |nil=>exact pass [] vs hs hv (by cases b<;>exact hr)
  |cons p ps=>
   have step: ∀ {q:PV U} {σ2:St U} {G1:List Nat} {fp2:List Loc} {k':List (PV U)->M U} {δ0:Option Nat},k'=(fun rest=>k (q::rest))->Spent σ σ2 (G1++G0)->(∀i∈G1,i∉G0)->(∀b,δ0=some b-> ∃i∈G1,D i=some b)->RepG X w (c.N g D) g (vs 0) δ0 q->
     (kh gv ps k').Rel K σ2 fp2 r τ gp-> ∃ (qs:List (PV U)) (σ':St U) (fp':List Loc) (G:List Nat) (δ:Nat->Option Nat),(k qs).Rel K σ' fp' r τ gp/\qs.length=(p::ps).length/\Spent σ σ' (G++G0)/\(∀i∈G,i∉G0)/\(∀j b,δ j=some b->j<(p::ps).length/\ ∃i∈G,D i=some b)/\
      (∀i j b,δ i=some b->δ j=some b->i=j)/\ ∀ (j:Nat) q,qs[j]? =some q->RepG X w (c.N g D) g (vs j) (δ j) q:=by
    intro q σ2 G1 fp2 k' δ0 hk hs2 hG1 hδ0 hq hr2
    subst hk
    obtain ⟨qs,σ',fp',G,δ,h1,h2,h3,h4,h5,h6,h7⟩:=ih ps (fun j=>vs (j+1)) hs2 (fun j p hp=>hv (j+1) p (by grind)) hr2
    refine ⟨q::qs,σ',fp',G++G1,fun j=>if j=0 then δ0 else δ (j-1),h1,by simp [h2],by grind,fun i hi=> ?_,fun j b hb=> ?_,fun i j b hb hb'=> ?_,fun j q' hq'=> ?_⟩
    ·grind
    ·grind
    ·simp only at hb hb'
     split at hb<;>split at hb'
     ·omega
     ·obtain ⟨i1,hi1,hD1⟩:=hδ0 b hb
      obtain ⟨_,i2,hi2,hD2⟩:=h5 _ b hb'
      have:=h.dinj _ _ _ hD1 hD2
      grind
     ·obtain ⟨i1,hi1,hD1⟩:=hδ0 b hb'
      obtain ⟨_,i2,hi2,hD2⟩:=h5 _ b hb
      have:=h.dinj _ _ _ hD1 hD2
      grind
     grind
    grind
   cases b with
   |false=>
    simp only [kh] at hr
    have h0:=hv 0 p rfl
    refine step (δ0:=none) rfl (G1:=[]) hs (by simp) (by simp) (RepG.of h0) hr
   |true=>
    simp only [kh] at hr
    split at hr
    ·rename_i i ver
     obtain ⟨ob,fp2,hob,hver,hr2⟩:=mF hr
     simp only [M.Rel] at hr2
     have h0:=hv 0 _ rfl
     by_cases hG:i∈G0
     ·obtain ⟨ob0,ho0,ho1,_⟩:=hs.spent i hG
      rw [ho1] at hob
      injection hob with hob
      subst hob
      obtain ⟨val,hk,_⟩:=h.objs i ob0 ho0
      have:=aiq h0 hk
      grind
     ·obtain ⟨q1,q2⟩:=hs.other i hG
      rw [q2] at hr2
      rw [q1] at hob
      have hO:=GV h h0 hob hver
      cases hu:σ.u i with
      |read=>rw [hu] at hr2;exact hr2.elim
      |app=>rw [hu] at hr2;exact hr2.elim
      |wr=>
       rw [hu] at hr2 hO
       refine step (G1:=[i]) (δ0:=D i) (q:= .fresh ob.e ob.l) (σ2:=(σ1.setO i ⟨ob.ver+1,ob.e,[]⟩).setU i .read) rfl ⟨hs.r,hs.b,fun j hj=> ?_,fun j hj=> ?_⟩ (fun j hj=>by grind) (fun b hb=>⟨i,by simp,hb⟩) hO hr2
       ·simp only [List.cons_append,arU,arR] at hj
        by_cases hji:j=i
        ·subst hji
         exact ⟨ob,hob,by simp,by simp⟩
        ·obtain ⟨ob',a1,a2,a3⟩:=hs.spent j (hj.resolve_left hji)
         exact ⟨ob',a1,by simpa [Ne.symm hji] using a2,by simpa [Ne.symm hji] using a3⟩
       ·simp only [List.cons_append,arU,arR,not_or] at hj
        obtain ⟨a1,a2⟩:=hs.other j hj.2
        exact ⟨by simpa [Ne.symm hj.1] using a1,by simpa [Ne.symm hj.1] using a2⟩
    ·rename_i e
     have h0:=hv 0 _ rfl
     refine step (δ0:=none) (q:= .fresh e []) rfl (G1:=[]) hs (by simp) (by simp) ?_ hr
     exact ⟨none,0,0,aip h0,rfl,aru _,by simp,fun _=>⟨rfl,rfl,rfl⟩,fun h=>by cases h⟩
    ·exact hr.elim
theorem aDk {q:Option Nat} {n:Nat} {rs:List (PV U)}: ∀ (l:List (Nat×Box U)) {σ:St U} {m:M U} {fp:List Loc},(l.map (·.1)).Nodup->(∀id∈l.map (·.1),q=some id-> ∃b,σ.b id=some b/\rs=b.rest n)->(auT q n l m).Rel K σ fp r τ gp->
  ∃σ' fp',m.Rel K σ' fp' r τ gp/\(∀n,σ'.r n=σ.r n)/\(∀i,σ'.o i=σ.o i)/\(∀i,σ'.u i=σ.u i)/\(∀id,id∉l.map (·.1)->σ'.b id=σ.b id)/\ ∀x∈l,σ'.b x.1=some (x.2.glue (bif arz q x.1 then rs else [])):=by
 intro l
 induction l with
 |nil=>intro σ m fp _ _ hr;exact ⟨σ,fp,hr,fun _=>rfl,fun _=>rfl,fun _=>rfl,fun _ _=>rfl,by simp⟩
 |cons x l ih=>
  obtain ⟨id,b⟩:=x
  intro σ m fp hnd hq hr
  rw [List.map_cons,List.nodup_cons] at hnd
  have step: ∀ {B:Box U} {fp1:List Loc},B=b.glue (bif arz q id then rs else [])->(auT q n l m).Rel K (σ.setB id B) fp1 r τ gp->
    ∃σ' fp',m.Rel K σ' fp' r τ gp/\(∀n,σ'.r n=σ.r n)/\(∀i,σ'.o i=σ.o i)/\(∀i,σ'.u i=σ.u i)/\(∀id',id'∉id::l.map (·.1)->σ'.b id'=σ.b id')/\ ∀x∈(id,b)::l,σ'.b x.1=some (x.2.glue (bif arz q x.1 then rs else [])):=by
   intro B fp1 hB hr1
   obtain ⟨σ',fp',h1,h2,h3,h4,h5,h6⟩:=ih hnd.2 (fun i hi hqi=>by
    have hne:id≠i:=fun e=>hnd.1 (e▸hi)
    obtain ⟨b',e1,e2⟩:=hq i (List.mem_cons_of_mem _ hi) hqi
    exact ⟨b',by rw [St.setB_b,if_neg hne];exact e1,e2⟩) hr1
   refine ⟨σ',fp',h1,h2,h3,h4,fun id' hid=> ?_,fun y hy=> ?_⟩
   ·simp only [arR,not_or] at hid
    rw [h5 id' hid.2,St.setB_b,if_neg (Ne.symm hid.1)]
   ·rcases arR.1 hy with rfl|hy
    ·rw [h5 id hnd.1,St.setB_b,if_pos rfl,hB]
    ·exact h6 y hy
  rw [List.map_cons]
  cases hs:arz q id with
  |false=>
   simp only [auT,hs,cond_false,M.Rel] at hr
   exact step (by rw [hs,cond_false,Box.glue_nil]) hr
  |true=>
   simp only [auT,hs,cond_true] at hr
   split at hr
   ·rename_i cs
    obtain ⟨σ1,hset,hr⟩:=hr
    obtain ⟨all,e1,e2,e3,rfl⟩:=St.setH_inv hset
    obtain ⟨b',f1,f2⟩:=hq id (by simp) (sameId_iff.1 hs)
    rw [e1] at f1
    injection f1 with f1
    subst f1
    exact step (by rw [hs,cond_true,f2];rfl) hr
   ·exact hr.elim
theorem ac5: ∀ (l:List Nat) {m:M U} {fp:List Loc},(z_ l m).Rel K σ fp r τ gp->(∀id∈l,σ.b id=none/\id<1000000)/\ ∃fp',m.Rel K σ fp' r τ gp:=by
 intro l
 induction l with
 |nil=>intro m fp hr;exact ⟨by simp,fp,hr⟩
 |cons id l ih=>
  intro m fp hr
  simp only [z_,M.Rel] at hr
  split at hr
  ·rename_i hb
   cases hlt:Nat.blt id 1000000 with
   |false=>rw [hlt] at hr;exact hr.elim
   |true=>
   rw [hlt] at hr
   obtain ⟨h1,h2⟩:=ih hr
   simp_all
  ·exact hr.elim
theorem AG: ∀ {l:List Nat} {i:Nat},i∈l->l[aq0 l i]? =some i/\aq0 l i<l.length:=by
 intro l
 induction l with
 |nil=>simp
 |cons m l ih=>
  intro i h
  simp only [aq0]
  cases hb:aoy m i with
  |true=>
   simp_all
  |false=>
   have hne:i≠m:=fun e=>by simp_all
   grind
theorem AH: ∀ {l:List Nat},l.Nodup-> ∀ {j i:Nat},l[j]? =some i->aq0 l i=j:=by
 intro l
 induction l with
 |nil=>simp
 |cons m l ih=>
  intro hn j i h
  simp only [List.nodup_cons] at hn
  simp only [aq0]
  cases j with
  |zero=>simp_all
  |succ j=>
   have h':l[j]? =some i:=by grind
   have hne:m≠i:=fun e=>hn.1 (e▸as2 h')
   have hb:aoy m i=false:=by
    cases hq:aoy m i<;>simp_all
   grind
theorem NO: ∀ (n s k:Nat),k<n->(cK s n)[k]? =some (s+k):=by
 intro n
 induction n<;>grind [cK]
theorem AB: ∀ (n s:Nat),(cK s n).length=n:=by
 intro n
 induction n<;>grind [cK]
theorem agV: ∀ (n s:Nat),(cK s n).Nodup/\ ∀i∈cK s n,s<=i:=by
 intro n
 induction n<;>grind [cK]
end
section
variable {U:Uni} {V:Env U} {P:Program} {X:Link V P} {K:cj U} {c:Ctx} {tm:Array Value} {w:World} {σ:St U} {g:Gh U} {D:Nat->Option Nat}
def ee (N:aN) (n:Nat) (ν:Nat->Nat) (δ:Nat->Option Nat):aN:=fun b o=>N b o/\(∀k,k<n->ν k≠b)/\ ∀j,δ j≠some b
theorem Jw {N:aN} {n:Nat} {ν:Nat->Nat} {δ:Nat->Option Nat} (h1: ∀k o,k<n->N (ν k) o) (h2: ∀j b o,δ j=some b->N b o):NB (ee N n ν δ) n ν δ=N:=by
 funext b o
 apply propext
 constructor
 ·rintro (h|⟨k,hk,rfl⟩|⟨j,hj⟩)
  ·exact h.1
  all_goals grind
 ·intro h
  by_cases ha: ∃k,k<n/\ν k=b
  ·exact .inr (.inl ha)
  ·by_cases hb: ∃j,δ j=some b
   ·exact .inr (.inr hb)
   ·exact .inl ⟨h,fun k hk e=>ha ⟨k,hk,e⟩,fun j e=>hb ⟨j,e⟩⟩
theorem Jg (h:Sim X c tm w σ g D) {b o:Nat} (hn:(c.N g D) b o):b<w.heap.size:=by
 rcases hn with hn|⟨id,hid⟩|⟨i,hi⟩
 ·exact Nat.lt_of_lt_of_le (c.n0 _ _ hn).1 h.ext.size
 ·exact (h.new id b hid).1
 ·exact (h.dnew i b hi).1
theorem Sim.called (h:Sim X c tm w σ g D) {w':World} {σ':St U} {ids new G:List Nat} {ν ν':Nat->Nat} {δ δ':Nat->Option Nat} {cs:List (Box U)} {m d:Nat} {fo:Option (Ob U)} {fval:Value} {fD:Option Nat} {ο':Nat->Array Value} {R:Nat->List (PV U)}
  (hnd:(ids++new).Nodup) (hlen:(ids++new).length=cs.length) (hν: ∀ (k:Nat) id,ids[k]? =some id->g.μ id=some (ν k)) (hnew: ∀id∈new,σ.b id=none) (hlow: ∀id∈new,id<1000000)
  (hδ: ∀j b,δ j=some b-> ∃i∈G,D i=some b)
  (hG: ∀i∈G,∃ob,σ.o i=some ob/\(fo=none\/i≠d->σ'.o i=some ⟨ob.ver+1,ob.e,[]⟩/\σ'.u i= .read))
  (hother: ∀i,i∉G->(fo=none\/i≠d)->σ'.o i=σ.o i/\σ'.u i=σ.u i)
  (hfo: ∀ob,fo=some ob->σ'.o d=some ob/\σ'.u d= .wr/\(∀ob0,σ.o d=some ob0->ob0.ver<ob.ver)/\ObOK X w' (NB (ee (c.N g D) ids.length ν δ) cs.length ν' δ') (gB U cs.length ν') ob.e ob.l fval .wr fD)
  (hfD: ∀b,fD=some b-> ∃j,δ' j=some b) (hfN:fo=none->fD=none)
  (hr: ∀n,σ'.r n=σ.r n) (hbo: ∀id,id∉ids++new->σ'.b id=σ.b id) (hbn: ∀ (k:Nat) id b,(ids++new)[k]? =some id->cs[k]? =some b->σ'.b id=some ((b.ren true fun i=>(ids++new).getD i 0).glue (R id)))
  (hglue: ∀ (N':aN) (g':Gh U),(∀v p,Rep X w (c.N g D) g v p->Rep X w' N' g' v p)-> ∀ (k:Nat) id b,(ids++new)[k]? =some id->k<cs.length->BoxOK X w' N' g' (ο' (ν' k)) (ν' k) b->BoxOK X w' N' g' (c.ο (ν' k)) (ν' k) (b.glue (R id)))
  (back:Back X w w' (ee (c.N g D) ids.length ν δ) ν δ ο' ids.length m ν' δ' cs):
  ∃g' D',Sim X c tm w' σ' g' D'/\(∀v p,Rep X w' (NB (ee (c.N g D) ids.length ν δ) cs.length ν' δ') (gB U cs.length ν') v p->Rep X w' (c.N g' D') g' v (p.ren true fun i=>(ids++new).getD i 0))/\
   ∀ob,fo=some ob->g'.κ d=some (ob.ver,ob.e,fval):=by
 have hin: ∀id,id∈ids++new-> ∃k,k<cs.length/\(ids++new)[k]? =some id/\aq0 (ids++new) id=k:=by
  intro id hid
  obtain ⟨h1,h2⟩:=AG hid
  grind
 have hidsν: ∀id∈ids,g.μ id=some (ν' (aq0 (ids++new) id)):=by
  intro id hid
  obtain ⟨k,hk⟩:=List.mem_iff_getElem?.1 hid
  have hk2:(ids++new)[k]? =some id:=by grind
  rw [AH hnd hk2,back.old k (asn.1 hk).1]
  grind
 have hfree: ∀id∈new,g.μ id=none:=fun id hid=>h.free (hnew id hid)
 have hnewν: ∀id∈new,w.heap.size<=ν' (aq0 (ids++new) id)/\ids.length<=aq0 (ids++new) id:=by
  intro id hid
  obtain ⟨k,hk⟩:=List.mem_iff_getElem?.1 hid
  have hk2:(ids++new)[ids.length+k]? =some id:=by grind
  rw [AH hnd hk2]
  have:=(asn.1 hk2).1
  exact ⟨back.new _ (by omega) (by omega),by omega⟩
 let g':Gh U:={μ:=fun id=>if id∈ids++new then some (ν' (aq0 (ids++new) id)) else g.μ id,κ:=fun j=>if j=d/\fo.isSome=true then fo.map (fun ob=>(ob.ver,ob.e,fval)) else if j∈G then (σ.o j).map (fun ob=>(ob.ver+1,ob.e,.slice none 0 0)) else g.κ j}
 let D':Nat->Option Nat:=fun j=>if j=d/\fo.isSome=true then fD else if j∈G then none else D j
 have hμin: ∀id,id∈ids++new->g'.μ id=some (ν' (aq0 (ids++new) id)):=fun id hid=>by grind
 have hμout: ∀id,id∉ids++new->g'.μ id=g.μ id:=fun id hid=>by grind
 have hlt': ∀id,id∈ids++new->aq0 (ids++new) id<cs.length:=fun id hid=>by grind
 have hκ: ∀i ver e val,g.κ i=some (ver,e,val)-> ∃ob,σ.o i=some ob/\ob.ver=ver:=by
  intro i ver e val hk
  cases ho:σ.o i with
  |none=>have:=(h.nobj i ho).1;grind
  |some ob=>
   obtain ⟨v1,h1,_⟩:=h.objs i ob ho
   grind
 have hle:g.le g':=by
  refine ⟨fun id b hb=> ?_,fun i ver e val hk=> ?_⟩
  all_goals grind [Option.isSome_iff_exists]
 have hDd: ∀j b,D' j=some b->(j=d/\fo.isSome=true/\fD=some b)\/(¬ (j=d/\fo.isSome=true)/\j∉G/\D j=some b):=by
  grind
 have hboxb: ∀k,k<ids.length-> ∃id,ids[k]? =some id/\g.μ id=some (ν k):=fun k hk=>⟨ids[k],arN hk,hν k _ (arN hk)⟩
 have hsub: ∀b o,(c.N g' D') b o->(NB (ee (c.N g D) ids.length ν δ) cs.length ν' δ') b o:=by
  rintro b o (hn|⟨id,hid⟩|⟨j,hj⟩)
  ·refine .inl ⟨.inl hn,fun k hk e=> ?_,fun j e=> ?_⟩
   ·obtain ⟨id,_,hid⟩:=hboxb k hk
    rw [e] at hid
    have h1:=c.n0 _ _ hn
    rcases (h.new id b hid).2 with h2|h2<;>grind
   ·obtain ⟨i,_,hi⟩:=hδ j b e
    have h1:=c.n0 _ _ hn
    rcases (h.dnew i b hi).2 with h2|h2<;>grind
  ·by_cases hm:id∈ids++new
   ·rw [hμin id hm] at hid
    injection hid with hid
    exact .inr (.inl ⟨_,hlt' id hm,hid⟩)
   ·rw [hμout id hm] at hid
    refine .inl ⟨.inr (.inl ⟨id,hid⟩),fun k hk e=> ?_,fun j e=> ?_⟩
    ·obtain ⟨id',hid',hμ'⟩:=hboxb k hk
     rw [e] at hμ'
     have:=h.inj _ _ _ hid hμ'
     grind
    ·obtain ⟨i,_,hi⟩:=hδ j b e
     exact h.dbox i id b hi hid
  ·rcases hDd j b hj with ⟨_,_,hf⟩|⟨_,hjG,hDj⟩
   ·obtain ⟨q,hq⟩:=hfD b hf
    exact .inr (.inr ⟨q,hq⟩)
   ·refine .inl ⟨.inr (.inr ⟨j,hDj⟩),fun k hk e=> ?_,fun q e=> ?_⟩
    ·obtain ⟨id',hid',hμ'⟩:=hboxb k hk
     rw [e] at hμ'
     exact h.dbox j id' b hDj hμ'
    ·obtain ⟨i,hi,hDi⟩:=hδ q b e
     have:=h.dinj _ _ _ hDj hDi
     grind
 have htrans: ∀v p,Rep X w' (NB (ee (c.N g D) ids.length ν δ) cs.length ν' δ') (gB U cs.length ν') v p->Rep X w' (c.N g' D') g' v (p.ren true fun i=>(ids++new).getD i 0):=by
  intro v p hp
  refine hp.ren true _ (fun _ _ _ _=>rfl) (fun b o _ hn=>hsub b o hn) (.inr fun _=>rfl) fun i hi b hb=> ?_
  grind [gB,AH]
 refine ⟨g',D',h.move (fun id=>id∈ids++new) (fun j=>j∈G\/(j=d/\fo.isSome=true)) back.ext.os back.ext.tape back.ext.output back.ext.size (fun b hb h1 h2=> ?_) hr hle (fun id k hk=> ?_) (fun id k h1 hk=> ?_) (fun id id' k h1 hk hk'=> ?_) (fun id hid=>⟨hbo id hid,hμout id hid⟩)
  (fun hmono id b hid hb=> ?_) (fun id k hid hk=> ?_) (fun j b hb=> ?_) (fun j j' b hj hb hb'=> ?_) (fun j b hj hb id hid=> ?_) (fun j hj=> ?_) (fun j ob hj ho=> ?_) (fun j hj ho=> ?_),htrans,fun ob hob=> ?_⟩
 ·refine back.ext.block b hb fun hm=> ?_
  rcases arH.1 hm with hm|hm<;>grind
 ·by_cases hid:id∈ids++new
  ·rw [hμin id hid] at hk
   injection hk with hk
   rcases arH.1 hid with h1|h1
   ·grind
   ·refine .inr ⟨hfree id h1, ?_, ?_⟩
    ·grind
    ·rw [<-hk];exact back.bnd.lt _ (hlt' id hid)
  grind
 ·by_cases hid:id∈ids++new
  ·rcases arH.1 hid with h2|h2
   ·grind
   ·have:=hlow id h2
    cases hf:c.fix id with
    |none=>rfl
    |some k=>have:=(c.low id k hf).1;omega
  grind
 ·by_cases hid:id∈ids++new
  ·rw [hμin id hid] at hk
   injection hk with hk
   by_cases hid':id'∈ids++new
   ·rw [hμin id' hid'] at hk'
    injection hk' with hk'
    have hp:=back.bnd.inj _ _ (hlt' id hid) (hlt' id' hid') (hk.trans hk'.symm)
    grind
   ·rw [hμout id' hid'] at hk'
    exfalso
    rcases arH.1 hid with h2|h2
    ·grind
    ·have:=(hnewν id h2).1
     have:=(h.new id' k hk').1
     omega
  grind
 ·obtain ⟨k,hk,hget,hpl⟩:=hin id hid
  refine ⟨_,hμin id hid, ?_⟩
  have hcs:cs[k]? =some cs[k]:=arN hk
  have:=hbn k id _ hget hcs
  rw [this] at hb
  injection hb with hb
  subst hb
  rw [hpl]
  refine hglue _ _ hmono k id _ hget hk ?_
  refine (back.boxes k _ hcs).ren true _ rfl (fun _ _ _ _=>rfl) (fun b o _ hn=>hsub b o hn) (.inr fun _=>rfl) fun i hi b hb=> ?_
  simp only [gB] at hb
  split at hb<;>grind [as2,AH]
 ·obtain ⟨k,hk',hget,_⟩:=hin id hid
  exact ⟨_,hbn k id _ hget (arN hk')⟩
 ·rcases hDd j b hb with ⟨hj,hs,hf⟩|⟨h1,h2,h3⟩
  ·obtain ⟨q,hq⟩:=hfD b hf
   rcases back.dnew q b hq with h1|⟨q',h1⟩
   ·exact .inr (.inr ⟨h1,back.bnd.dlt q b hq⟩)
   grind
  grind
 ·rcases hDd j b hb with ⟨hj1,hs,hf⟩|⟨h1,h2,h3⟩
  ·rcases hDd j' b hb' with ⟨hj1',_,_⟩|⟨h1',h2',h3'⟩
   ·omega
   ·exfalso
    obtain ⟨q,hq⟩:=hfD b hf
    rcases back.dnew q b hq with h4|⟨q',h4⟩
    ·have:=(h.dnew j' b h3').1;omega
    ·obtain ⟨i,hi,hDi⟩:=hδ q' b h4
     have:=h.dinj _ _ _ h3' hDi
     grind
  grind
 ·rcases hDd j b hb with ⟨hj1,hs,hf⟩|⟨h1,h2,h3⟩
  ·obtain ⟨q,hq⟩:=hfD b hf
   by_cases hm:id∈ids++new
   ·rw [hμin id hm] at hid
    injection hid with hid
    exact back.bnd.dν q b hq _ (hlt' id hm) hid
   ·rw [hμout id hm] at hid
    rcases back.dnew q b hq with h4|⟨q',h4⟩
    ·have:=(h.new id b hid).1;omega
    ·obtain ⟨i,hi,hDi⟩:=hδ q' b h4
     exact h.dbox i id b hDi hid
  grind
 ·have h1:j∉G:=fun h=>hj (.inl h)
  have h2: ¬ (j=d/\fo.isSome=true):=fun h=>hj (.inr h)
  have h3:fo=none\/j≠d:=by
   cases hfo':fo<;>grind
  grind
 ·by_cases hjd:j=d/\fo.isSome=true
  ·obtain ⟨ob',hfo'⟩:=Option.isSome_iff_exists.1 hjd.2
   obtain ⟨a1,a2,a3,a4⟩:=hfo ob' hfo'
   obtain ⟨rfl,hs⟩:=hjd
   rw [a1] at ho
   injection ho with ho
   subst ho
   refine ⟨fval,by grind, ?_⟩
   rw [a2,show D' j=fD by grind]
   exact a4.turn (fun _ _=>rfl) (fun _ _ _ _=>rfl) (fun b o _ hn=>hsub b o hn)
  ·have hjG:j∈G:=hj.resolve_right hjd
   have h3:fo=none\/j≠d:=by
    cases hfo':fo<;>grind
   obtain ⟨ob0,b1,b2⟩:=hG j hjG
   obtain ⟨b2,b3⟩:=b2 h3
   rw [b2] at ho
   injection ho with ho
   subst ho
   refine ⟨.slice none 0 0,by grind, ?_⟩
   rw [b3,show D' j=none by grind]
   exact ⟨none,0,0,rfl,rfl,aru _,by simp,by simp⟩
 ·exfalso
  by_cases hjd:j=d/\fo.isSome=true
  ·grind [Option.isSome_iff_exists]
  ·have hjG:j∈G:=hj.resolve_right hjd
   have h3:fo=none\/j≠d:=by
    cases hfo':fo<;>grind
   grind
 grind
end
section
variable {U:Uni} {V:Env U} {P:Program} {X:Link V P} {K:cj U} {c:Ctx} {tm:Array Value} {a:Act} {w:World} {σ:St U} {g:Gh U} {D:Nat->Option Nat}
variable {next:Act->World->Prop} {Q:Exit->Act->World->Prop} {r:MR U} {τ:St U} {fp gp:List Loc} {N:aN}
variable {dst:Option Tmp} {ty:TypeId} {pos:String} {after:Array Edge} {gd:Option (Nat×Bool)}
def PV.noFresh:PV U->Prop
 | .tuple ps=>ps.all PV.notFresh=true
 |p=>p.notFresh=true
theorem akN {d:Nat}: ∀ (ps:List (PV U)) {k:List (PV U)->M U} {fp:List Loc},(ww d ps k).Rel K σ fp r τ gp->
  (∃fp',(k ps).Rel K σ fp' r τ gp/\ps.all PV.notFresh=true)\/
  ∃e l nv fp' pre post,(k (pre++ .own d nv::post)).Rel K ((σ.setO d ⟨nv,e,l⟩).setU d .wr) fp' r τ gp/\(∀ob,σ.o d=some ob->ob.ver<nv)/\ps=pre++ .fresh e l::post/\pre.all PV.notFresh=true/\post.all PV.notFresh=true:=by
 intro ps
 induction ps with
 |nil=>intro k fp hr;exact .inl ⟨fp,hr,rfl⟩
 |cons p ps ih=>
  intro k fp hr
  have other:p.notFresh=true->(ww d ps fun r=>k (p::r)).Rel K σ fp r τ gp->((∃fp',(k (p::ps)).Rel K σ fp' r τ gp/\(p::ps).all PV.notFresh=true)\/
     ∃e l nv fp' pre post,(k (pre++ .own d nv::post)).Rel K ((σ.setO d ⟨nv,e,l⟩).setU d .wr) fp' r τ gp/\(∀ob,σ.o d=some ob->ob.ver<nv)/\(p::ps)=pre++ .fresh e l::post/\pre.all PV.notFresh=true/\post.all PV.notFresh=true):=fun hp hr'=>by
   grind
  cases p with
  |fresh e l=>
   simp only [ww] at hr
   cases hb:ps.all PV.notFresh with
   |false=>rw [hb] at hr;exact hr.elim
   |true=>
    rw [hb] at hr
    simp only [cond_true,M.Rel] at hr
    split at hr
    ·rename_i ob hob
     exact .inr ⟨e,l,ob.ver+1,_,[],ps,hr,fun ob' h=>by grind,rfl,rfl,hb⟩
    ·rename_i hob
     exact .inr ⟨e,l,0,_,[],ps,hr,(fun ob' h=>by grind),rfl,rfl,hb⟩
  |_=>exact other rfl hr
theorem akO {d:Nat} {p:PV U} {k:PV U->M U} {fp:List Loc} (hr:(BY d p k).Rel K σ fp r τ gp):
  (∃fp',(k p).Rel K σ fp' r τ gp/\p.noFresh)\/
  ∃e l nv fp',(∀ob,σ.o d=some ob->ob.ver<nv)/\((p= .fresh e l/\(k (.own d nv)).Rel K ((σ.setO d ⟨nv,e,l⟩).setU d .wr) fp' r τ gp)\/
   ∃pre post,p= .tuple (pre++ .fresh e l::post)/\(k (.tuple (pre++ .own d nv::post))).Rel K ((σ.setO d ⟨nv,e,l⟩).setU d .wr) fp' r τ gp/\pre.all PV.notFresh=true/\post.all PV.notFresh=true):=by
 cases p with
 |fresh e l=>
  grind [BY,M.Rel]
 |tuple ps=>
  simp only [BY] at hr
  rcases akN ps hr with ⟨fp',h1,h2⟩|⟨e,l,nv,fp',pre,post,h1,h2,h3,h4,h5⟩
  ·exact .inl ⟨fp',h1,h2⟩
  grind
 |_=>exact .inl ⟨_,hr,rfl⟩
theorem RepG.rep {v:Value} {Do:Option Nat} {p:PV U} (h:RepG X w N g v Do p) (hp:p.notFresh=true):Rep X w N g v p:=by
 cases p<;>first|exact h|cases hp
theorem Bk {keep:Bool} {ρ:Nat->Nat} (p:PV U):(p.ren keep ρ).notFresh=p.notFresh:=by
 cases p with
 |sl e l o=>cases o<;>cases keep<;>rfl
 |_=>rfl
theorem Qr {keep:Bool} {ρ:Nat->Nat} {p:PV U} {e:U.E} {l:List (U.El e)} (h:p.ren keep ρ= .fresh e l):p= .fresh e l:=by
 cases p with
 |fresh e' l'=>exact h
 |sl e l o=>cases o<;>cases keep<;>cases h
 |_=>cases h
theorem aio {keep:Bool} {ρ:Nat->Nat} {p:PV U} {l:List (PV U)} (h:p.ren keep ρ= .tuple l): ∃ps,p= .tuple ps/\l=ps.map (PV.ren keep ρ):=by
 cases p with
 |tuple ps=>grind [PV.ren,atk]
 |sl e l o=>cases o<;>cases keep<;>cases h
 |_=>cases h
theorem RepG.ren {w':World} {N':aN} {g':Gh U} {v:Value} {Do:Option Nat} {p:PV U} (h:RepG X w N g v Do p) (keep:Bool) (ρ:Nat->Nat) (hno:p.noObj=true) (hμ: ∀i,i∈p.ids-> ∀b,g.μ i=some b->g'.μ (ρ i)=some b):RepG X w N g' v Do (p.ren keep ρ):=by
 by_cases hp:p.notFresh=true
 ·have:=(h.rep hp).ren (g':=g') (N':=N) (w':=w) keep ρ (fun _ _ _ _=>rfl) (fun _ _ _ h=>h) (.inl hno) hμ
  have hq:(p.ren keep ρ).notFresh=true:=by rw [Bk];exact hp
  generalize p.ren keep ρ=q at this hq
  cases q<;>first|exact this|cases hq
 ·cases p with
  |fresh e l=>exact ObOK.turn h (fun _ _=>rfl) (fun _ _ _ _=>rfl) (fun _ _ _ h=>h)
  |_=>exact absurd rfl hp
theorem QP {f:FuncId} {fn:Func} (hf:P.funcs[f]? =some fn) (hn:(fn.name== "runtime.NumGoroutine")=false) (hb:fn.body.isNone=false) (args:Array Value) (w:World):(callFunc f args).run P w= .ok (.enter f args) w:=by
 grind [callFunc,arV,run_program,arS,Sem.run_pure]
theorem aiG {x:Operand} {cl:Call} (hc:cl.callee= .value x) {f:FuncId} {a0s bs:Array Value} (he:a.eval x= .func (.func f) a0s bs) (w:World):
  (execOp a.eval ⟨dst,.call cl,ty,pos,after,gd⟩).run P w=(callFunc f (a0s++cl.args.map a.eval++bs)).run P w:=by
 grind [execOp,resolve,Deferred.ofValue,invoke]
theorem pT {xs:Array Value} {l:List Value} (j:Nat) (h:xs.toList=l):xs.getD j undef=l.getD j undef:=by
 grind [as1]
theorem Qw {xs ys:List Value} {ps qs:List (PV U)} (hl:xs.length=ps.length) (h1: ∀ (j:Nat) p,ps[j]? =some p->Rep X w N g (xs.getD j undef) p) (h2: ∀ (j:Nat) p,qs[j]? =some p->Rep X w N g (ys.getD j undef) p):
  ∀ (j:Nat) p,(ps++qs)[j]? =some p->Rep X w N g ((xs++ys).getD j undef) p:=by
 grind
end
set_option maxHeartbeats 1000000
section
variable {U:Uni} {V:Env U} {P:Program} {X:Link V P} {c:Ctx} {a:Act} {w:World} {σ:St U} {g:Gh U} {D:Nat->Option Nat}
variable {next:Act->World->Prop} {Q:Exit->Act->World->Prop} {r:MR U} {τ:St U} {fp gp:List Loc} {N:aN}
theorem Ac {all:List (PV U)} {bs:List (Nat×Box U)} (h:kj all bs=true):PV.noObjL all=true/\(∀x∈bs,x.2.noObj=true)/\(bs.map (·.1)).Nodup/\(∀i∈PV.idsL all,i∈bs.map (·.1))/\ ∀x∈bs,∀i∈x.2.ids,i∈bs.map (·.1):=by
 unfold kj at h
 simp only [anZ] at h
 obtain ⟨h1,h2,h3,h4⟩:=h
 have hin: ∀i,i∈PV.idsL all++bs.flatMap (·.2.ids)->i∈bs.map (·.1):=by
  intro i hi
  obtain ⟨j,hj,hij⟩:=List.any_eq_true.1 (ars.1 h4 i hi)
  simp_all
 grind [D8]
theorem NN {g:Gh U} {ο:Nat->Array Value} {bs:List (Nat×Box U)} (hb: ∀x∈bs,mG X w N g ο x): ∃ν:Nat->Nat,∀ (k:Nat) id,(bs.map (·.1))[k]? =some id->g.μ id=some (ν k):=by
 refine ⟨fun k=>(g.μ ((bs.map (·.1)).getD k 0)).getD 0,fun k id hid=> ?_⟩
 have hm:=as2 hid
 obtain ⟨x,hx,rfl⟩:=art.1 hm
 obtain ⟨kb,hk,_⟩:=hb x hx
 grind
theorem EE {tm:Array Value} (h:Sim X c tm w σ g D) (keep:Bool) {qs:List (PV U)} {bs:List (Nat×Box U)} {vs:Array Value} {δ:Nat->Option Nat} {ο:Nat->Array Value} (hoz: ∀b,w.heap.size<=b->ο b= #[]) {G:List Nat} (hsz:vs.size=qs.length) (hb: ∀x∈bs,mG X w (c.N g D) g ο x) (hh:kj qs bs=true)
  (hδ: ∀j b,δ j=some b->j<qs.length/\ ∃i∈G,D i=some b) (hδi: ∀i j b,δ i=some b->δ j=some b->i=j) (hq: ∀ (j:Nat) q,qs[j]? =some q->RepG X w (c.N g D) g (vs.getD j undef) (δ j) q)
  {ν:Nat->Nat} (hν: ∀ (k:Nat) id,(bs.map (·.1))[k]? =some id->g.μ id=some (ν k)) {F:Nat×Box U->Box U}
  (hF: ∀x,x.2.noObj=true-> ∀ (g':Gh U) (t:Array Value) (k:Nat),(∀i,i∈x.2.ids-> ∀b,g.μ i=some b->g'.μ (aq0 (bs.map (·.1)) i)=some b)->BoxOK X w (c.N g D) g t k x.2->BoxOK X w (c.N g D) g' t k (F x)):
  NB (ee (c.N g D) bs.length ν δ) bs.length ν δ=c.N g D/\
   Given X w vs (ee (c.N g D) bs.length ν δ) ν δ ο (PV.renL keep (aq0 (bs.map (·.1))) qs) (bs.map F):=by
 obtain ⟨h1,h2,h3,h4,h5⟩:=Ac hh
 have hget: ∀k,k<bs.length-> ∃id,(bs.map (·.1))[k]? =some id/\g.μ id=some (ν k):=fun k hk=>⟨_,arN (by grind),hν k _ (arN (by grind))⟩
 have hNB:NB (ee (c.N g D) bs.length ν δ) bs.length ν δ=c.N g D:=Jw (fun k o hk=>by
  obtain ⟨id,_,hid⟩:=hget k hk
  exact .inr (.inl ⟨id,hid⟩)) fun j b o hj=>by
  obtain ⟨_,i,_,hi⟩:=hδ j b hj
  exact .inr (.inr ⟨i,hi⟩)
 have hμ: ∀i,i∈bs.map (·.1)-> ∀b,g.μ i=some b->(gB U bs.length ν).μ (aq0 (bs.map (·.1)) i)=some b:=by
  grind [AG,gB]
 refine ⟨hNB,⟨fun i j hi hj e=> ?_,fun i hi=> ?_,fun j b hj=> ?_,hδi,fun j b hj i hi e=> ?_,fun b o hn=>⟨Jg h hn.1,by simpa using hn.2.1,hn.2.2⟩⟩,by simp [atk,hsz],fun j b hj=>by grind [atk],fun b o hb'=>⟨(h.glob hb').1,fun i hi e=> ?_,fun j hj=> ?_⟩,fun j p hp=> ?_,fun k b hb'=> ?_,hoz⟩
 ·simp only [List.length_map] at hi hj
  obtain ⟨id,q1,q2⟩:=hget i hi
  obtain ⟨id',q3,q4⟩:=hget j hj
  rw [e] at q2
  have:=h.inj _ _ _ q2 q4
  grind [List.getElem?_inj]
 ·simp only [List.length_map] at hi
  obtain ⟨id,q1,q2⟩:=hget i hi
  exact (h.new id _ q2).1
 ·obtain ⟨_,i,_,hi⟩:=hδ j b hj
  exact (h.dnew i b hi).1
 ·simp only [List.length_map] at hi
  obtain ⟨id,q1,q2⟩:=hget i hi
  obtain ⟨_,i',_,hi'⟩:=hδ j b hj
  rw [e] at q2
  exact h.dbox i' id b hi' q2
 ·simp only [List.length_map] at hi
  obtain ⟨id,_,q2⟩:=hget i hi
  exact (h.glob hb').2.1 id (e▸q2)
 ·obtain ⟨_,i,_,hi⟩:=hδ j b hj
  exact (h.glob hb').2.2 i hi
 ·simp only [List.length_map,hNB]
  rw [atk,List.getElem?_map,Option.map_eq_some_iff] at hp
  obtain ⟨q,hq',rfl⟩:=hp
  exact (hq j q hq').ren (w':=w) (N':=c.N g D) keep _ (at0 h1 hq') fun i hi b hb=>hμ i (h4 i (fj hq' i hi)) b hb
 ·simp only [List.length_map,hNB]
  rw [List.getElem?_map,Option.map_eq_some_iff] at hb'
  obtain ⟨x,hx,rfl⟩:=hb'
  have hxm:=as2 hx
  obtain ⟨kb,hk,hbx⟩:=hb x hxm
  grind
variable {dst:Option Tmp} {ty:TypeId} {pos:String} {after:Array Edge} {gd:Option (Nat×Bool)}
theorem agQ {w:World} {v:Value} {δ:Nat->Option Nat} {p:PV U} {N:aN} {g:Gh U} (h:RepR X w N g v δ p) (hp:p.noFresh):Rep X w N g v p:=by
 cases p with
 |tuple ps=>
  obtain ⟨vs,rfl,hl,hh⟩:=h
  exact .tuple vs ps hl fun j q hq=>(hh j q hq).rep (ars.1 hp q (as2 hq))
 |fresh e l=>cases hp
 |_=>exact h
theorem ain {keep:Bool} {ρ:Nat->Nat} {p:PV U} (h:(p.ren keep ρ).noFresh):p.noFresh:=by
 cases p with
 |tuple ps=>
  grind [PV.ren,atk,PV.noFresh,Bk]
 |sl e l o=>rfl
 |fresh e l=>exact h
 |_=>rfl
mutual
theorem azR {k:Bool} {ρ ρ':Nat->Nat}: ∀ (v:PV U),v.stb=true->(∀i∈v.ids,ρ' (ρ i)=i)->(v.ren k ρ).ren true ρ'=v
 | .ptr id off,_,h=>by simp only [PV.ren];rw [h id (by simp [PV.ids])]
 | .aptr id n,_,h=>by simp only [PV.ren];rw [h id (by simp [PV.ids])]
 | .mp id,_,h=>by simp only [PV.ren];rw [h id (by simp [PV.ids])]
 | .agg cs,hs,h=>by simp only [PV.ren];rw [awa cs (by simpa [PV.stb] using hs) (by simpa [PV.ids] using h)]
 | .tuple cs,hs,h=>by simp only [PV.ren];rw [awa cs (by simpa [PV.stb] using hs) (by simpa [PV.ids] using h)]
 | .func f a b,hs,h=>by
  simp only [PV.stb,anZ] at hs
  simp only [PV.ids,arH] at h
  simp only [PV.ren]
  rw [awa a hs.1 fun i hi=>h i (.inl hi),awa b hs.2 fun i hi=>h i (.inr hi)]
 | .iface t v,hs,h=>by simp only [PV.ren];rw [azR v (by simpa [PV.stb] using hs) (by simpa [PV.ids] using h)]
 | .sl e l o,hs,_=>by cases o<;>first|rfl|cases hs
 | .undef,_,_=>rfl
 | .int ..,_,_=>rfl
 | .bool _,_,_=>rfl
 | .str _,_,_=>rfl
 | .own ..,hs,_=>by cases hs
 | .fresh ..,hs,_=>by cases hs
 | .eptr ..,_,_=>rfl
 | .optr ..,hs,_=>by cases hs
 | .nilIface,_,_=>rfl
 | .nilPtr,_,_=>rfl
 | .nilFunc,_,_=>rfl
theorem awa {k:Bool} {ρ ρ':Nat->Nat}: ∀ (l:List (PV U)),PV.stbL l=true->(∀i∈PV.idsL l,ρ' (ρ i)=i)->PV.renL true ρ' (PV.renL k ρ l)=l
 |[],_,_=>rfl
 |v::r,hs,h=>by
  simp only [PV.stbL,anZ] at hs
  simp only [PV.idsL,arH] at h
  simp only [PV.renL]
  rw [azR v hs.1 fun i hi=>h i (.inl hi),awa r hs.2 fun i hi=>h i (.inr hi)]
end
theorem azQ {ρ ρ':Nat->Nat}: ∀ {ks:List Bool} (l:List (PV U)),PV.stbL l=true->(∀i∈PV.idsL l,ρ' (ρ i)=i)->PV.renL true ρ' (PV.renK ρ ks l)=l
 |[],l,hs,h=>awa l hs h
 |_::_,[],_,_=>rfl
 |k::ks,v::r,hs,h=>by
  simp only [PV.stbL,anZ] at hs
  simp only [PV.idsL,arH] at h
  simp only [PV.renK,PV.renL]
  rw [azR v hs.1 fun i hi=>h i (.inl hi),azQ r hs.2 fun i hi=>h i (.inr hi)]
theorem aE3 {ρ ρ':Nat->Nat} {ks:List Bool} {b:Box U} (hs:b.stb=true) (h: ∀i∈b.ids,ρ' (ρ i)=i):(b.renK ks ρ).ren true ρ'=b:=by
 cases b with
 |map e l=>cases hs
 |cells cs=>simp only [Box.renK,Box.ren];rw [azQ cs hs h]
mutual
theorem aBb: ∀ (v:PV U) (k:PV U->M U),v.stb=true->frz v k=k v
 | .agg cs,k,hs=>by rw [frz,avE cs _ (by simpa [PV.stb] using hs)]
 | .tuple cs,k,hs=>by rw [frz,avE cs _ (by simpa [PV.stb] using hs)]
 | .func f a b,k,hs=>by
  simp only [PV.stb,anZ] at hs
  rw [frz,avE a _ hs.1,avE b _ hs.2]
 | .iface t v,k,hs=>by rw [frz,aBb v _ (by simpa [PV.stb] using hs)]
 | .own ..,_,hs=>by cases hs
 | .sl ..,_,_=>by simp only [frz]
 | .undef,_,_=>by simp only [frz]
 | .int ..,_,_=>by simp only [frz]
 | .bool _,_,_=>by simp only [frz]
 | .str _,_,_=>by simp only [frz]
 | .fresh ..,_,hs=>by cases hs
 | .ptr ..,_,_=>by simp only [frz]
 | .aptr ..,_,_=>by simp only [frz]
 | .mp _,_,_=>by simp only [frz]
 | .eptr ..,_,_=>by simp only [frz]
 | .optr ..,_,hs=>by cases hs
 | .nilIface,_,_=>by simp only [frz]
 | .nilPtr,_,_=>by simp only [frz]
 | .nilFunc,_,_=>by simp only [frz]
theorem avE: ∀ (l:List (PV U)) (k:List (PV U)->M U),PV.stbL l=true->io l k=k l
 |[],_,_=>by rw [io]
 |v::r,k,hs=>by
  simp only [PV.stbL,anZ] at hs
  rw [io,aBb v _ hs.1,avE r _ hs.2]
end
theorem aBa: ∀ {bs:List (Nat×Box U)} (k:List (Nat×Box U)->M U),(bs.all fun x=>x.2.stb)=true->il bs k=k bs
 |[],_,_=>rfl
 |(id,.cells cs)::r,k,h=>by
  simp only [List.all_cons,anZ] at h
  rw [il,avE cs _ h.1,aBa _ h.2]
 |(id,.map e l)::r,k,h=>by
  simp only [List.all_cons,anZ] at h
  cases h.1
theorem aG_ {K:cj U} {q:Option Nat} {bs:List (Nat×Box U)} {ρ:Nat->Nat} {cs:List (Box U)} {m:M U} {σ:St U} {fp:List Loc} (hnd:(bs.map (·.1)).Nodup) (hb: ∀x∈bs,arz q x.1=false->σ.b x.1=some x.2) (hr:(ayk q bs ρ cs m).Rel K σ fp r τ gp):
  ∃σ' fp',m.Rel K σ' fp' r τ gp/\(∀n,σ'.r n=σ.r n)/\(∀i,σ'.o i=σ.o i)/\(∀i,σ'.u i=σ.u i)/\(∀id,id∉bs.map (·.1)->σ'.b id=σ.b id)/\
   ((cs=[]/\ ∀id,σ'.b id=σ.b id)\/ ∃kd n a id g,cs=[.cells (.int kd n::a)]/\bs[n.toNat]? =some (id,.cells g)/\a.length<=g.length/\arz q id=false/\σ'.b id=some (.cells (a.map (PV.ren true ρ)++g.drop a.length))/\ ∀i,i≠id->σ'.b i=σ.b i):=by
 unfold ayk at hr
 split at hr
 ·exact ⟨σ,fp,hr,fun _=>rfl,fun _=>rfl,fun _=>rfl,fun _ _=>rfl,.inl ⟨rfl,fun _=>rfl⟩⟩
 ·rename_i kd n a
  split at hr
  ·rename_i id g hbs
   cases hc:arq a.length g.length&& !arz q id with
   |false=>rw [hc] at hr;exact hr.elim
   |true=>
    rw [hc] at hr
    simp only [anZ,Bool.not_eq_true'] at hc
    obtain ⟨σ1,hs,hr⟩:=hr
    obtain ⟨all,e1,e2,e3,rfl⟩:=St.setH_inv hs
    have hm:=as2 hbs
    rw [hb _ hm hc.2] at e1
    injection e1 with e1
    injection e1 with e1
    subst e1
    refine ⟨_,_,hr,fun _=>rfl,fun _=>rfl,fun _=>rfl,fun i hi=> ?_,.inr ⟨kd,n,a,id,g,rfl,hbs,Nat.le_of_ble_eq_true hc.1,hc.2,by simp,fun i hi=> ?_⟩⟩
    ·have:id≠i:=fun e=>hi (e▸List.mem_map_of_mem (f:=(·.1)) hm)
     simp_all
    ·simp [Ne.symm hi]
  ·exact hr.elim
 ·exact hr.elim
theorem ac6 {ο:Nat->Array Value} (bs:List (Nat×Box U)) {σ:St U} {D:Nat->Option Nat} {k:List (Nat×Box U)->M U} {fp:List Loc} {tm:Array Value} {K:cj U} (h:Sim X c tm w σ g D) (hb: ∀x∈bs,mG X w (c.N g D) g ο x) (hr:(il bs k).Rel K σ fp r τ gp):
  ∃qs σ' D' fp',(k qs).Rel K σ' fp' r τ gp/\Frozen X c tm w g σ D σ' D'/\qs.map (·.1)=bs.map (·.1)/\(∀x∈qs,mG X w (c.N g D') g ο x)/\((bs.all fun x=>x.2.stb)=true->qs=bs/\σ'=σ):=by
 by_cases hp:(bs.all fun x=>x.2.stb)=true
 ·rw [aBa _ hp] at hr
  exact ⟨bs,σ,D,fp,hr,.refl h,rfl,hb,fun _=>⟨rfl,rfl⟩⟩
 ·obtain ⟨qs,σ',D',fp',h1,h2,h3,h4⟩:=Ew bs h hb hr
  grind
def aua (w:World) (ο:Nat->Array Value) (l:Nat) (kq:Option Nat) (b:Nat):Array Value:=if kq=some b then (match w.heap[b]? with|some (.cells cur _ _)=>(cur.toList.drop l).toArray|_=>ο b) else ο b
theorem aAP {tm:Array Value} (h:Sim X c tm w σ g D) {q:Option Nat} {l id k:Nat} (hk:g.μ id=some k) (hs:arz q id=false):aua w c.ο l (q.bind g.μ) k=c.ο k:=by
 have hne:q.bind g.μ≠some k:=by
  intro e
  cases q with
  |none=>simp at e
  |some j=>
   simp only [an4] at e
   have:=h.inj _ _ _ e hk
   grind [sameId_iff]
 grind [aua]
theorem DD {tm:Array Value} (h:Sim X c tm w σ g D) {q:Option Nat} {l id:Nat} {b b':Box U} (hb:σ.b id=some b) (hc:b.cutIf (arz q id) l=some b'):mG X w (c.N g D) g (aua w c.ο l (q.bind g.μ)) (id,b'):=by
 obtain ⟨k,hk,hbx⟩:=h.boxes id b hb
 refine ⟨k,hk, ?_⟩
 cases hs:arz q id with
 |false=>
  rw [hs] at hc
  simp only [Box.cutIf,cond_false,Option.some.injEq] at hc
  grind [aAP]
 |true=>
  rw [hs] at hc
  rw [sameId_iff] at hs
  subst hs
  cases b with
  |map e l=>cases hc
  |cells cs=>
   simp only [Box.cutIf,cond_true] at hc
   cases hle:arq l cs.length with
   |false=>grind
   |true=>
    rw [hle] at hc
    simp only [cond_true,Option.some.injEq] at hc
    subst hc
    have hle':l<=cs.length:=by simp_all
    obtain ⟨cur,e,h1,⟨h2,h3⟩,h4⟩:=hbx
    refine ⟨cur,e,h1, ?_,fun j p hp=>h4 j p ?_⟩
    ·simp only [aua,an4,hk,if_true,h1]
     refine ⟨by grind,fun j hj=> ?_⟩
     simp only [List.length_take,Nat.min_eq_left hle']
     simp
    grind
theorem aF2 {tm:Array Value} (h:Sim X c tm w σ g D) {w':World} {N':aN} {g':Gh U} (hmono: ∀v p,Rep X w (c.N g D) g v p->Rep X w' N' g' v p) {q:Option Nat} {l id k:Nat} {bF bC b:Box U} {rs:List (PV U)} (hk:g.μ id=some k) (hb:σ.b id=some bF)
  (hrs:q=some id->rs=bF.rest l) (hcut:bF.cutIf (arz q id) l=some bC) (hB:BoxOK X w' N' g' (aua w c.ο l (q.bind g.μ) k) k b):BoxOK X w' N' g' (c.ο k) k (b.glue (bif arz q id then rs else [])):=by
 cases hs:arz q id with
 |false=>
  grind [aAP,Box.glue_nil]
 |true=>
  rw [hs] at hcut
  rw [sameId_iff] at hs
  subst hs
  have hrs:=hrs rfl
  subst hrs
  cases bF with
  |map e l=>cases hcut
  |cells cs=>
   simp only [Box.cutIf,cond_true] at hcut
   cases hle:arq l cs.length with
   |false=>grind
   |true=>
    have hle':l<=cs.length:=by simp_all
    obtain ⟨k',hk',cur,e,h1,⟨h2,h3⟩,h4⟩:=h.boxes id _ hb
    rw [hk] at hk'
    injection hk' with hk'
    subst hk'
    simp only [aua,an4,hk,if_true,h1] at hB
    cases b with
    |map e l=>exact hB
    |cells cs'=>
     obtain ⟨cur',e',b1,⟨b2,b3⟩,b4⟩:=hB
     have hsz:((cur.toList.drop l).toArray).size=cs.length+(c.ο k).size-l:=by simp [h2]
     have hget: ∀j,j<((cur.toList.drop l).toArray).size->((cur.toList.drop l).toArray).getD j undef=cur.getD (l+j) undef:=fun j _=>by simp
     simp only [cond_true,Box.rest,Box.glue]
     refine ⟨cur',e',b1,⟨by grind,fun j hj=> ?_⟩,fun j p hp=> ?_⟩
     ·have hi:cs.length-l+j<((cur.toList.drop l).toArray).size:=by omega
      grind
     grind
theorem aF1 {t:Bool} {l:Nat} {b b':Box U} {rs:List (PV U)} (h:b.cutIf t l=some b') (hr:t=true->rs=b.rest l):b'.glue (bif t then rs else [])=b:=by
 cases t with
 |false=>
  simp_all [Box.cutIf,Box.glue_nil]
 |true=>
  rw [hr rfl]
  cases b with
  |map e l=>cases h
  |cells cs=>
   simp only [Box.cutIf,cond_true] at h
   cases hle:arq l cs.length with
   |false=>grind
   |true=>
    rw [hle] at h
    simp only [cond_true,Option.some.injEq] at h
    subst h
    simp [Box.glue,Box.rest]
theorem Jv {lim:FuncId->Nat} {kb:FuncId->List Bool} {CP:FuncId->Array Value->World->(Ending->World->Prop)->Prop} (hCP: ∀ {f vs w} {R R':Ending->World->Prop},CP f vs w R->(∀e w,R e w->R' e w)->CP f vs w R') (h:Sim X c a.tmps w σ g D) {give:List Bool} {p:PV U} {ps:List (PV U)} {fv:Value} {xs:Array Value} (hp:Rep X w (c.N g D) g fv p) (hxl:ps.length=xs.size)
  (hx: ∀ (j:Nat) q,ps[j]? =some q->Rep X w (c.N g D) g (xs.getD j undef) q) {o:Oper} (ho:o.dst=dst) (hd:bq c.nt o=true) (hr:(iV lim kb give dst p ps).Rel (jS X CP) σ fp r τ gp) (ht:Then X c a r τ next Q):
  ∃f a0s bs,fv= .func (.func f) a0s bs/\(∃fn,P.funcs[f]? =some fn/\(fn.name== "runtime.NumGoroutine")=false/\fn.body.isNone=false)/\
   CP f (a0s++xs++bs) w fun
    | .returned v,w''=>next (a.put dst v) w''
    | .panicked chain,w''=>Q (.panic chain) a w''
    | .outgrown,_=>LetsOut Q:=by
 unfold iV at hr
 split at hr
 case h_2=>exact hr.elim
 rename_i gid first caps
 cases hp with
 |func _ _ _ a0s bs ha hb hf1 hf2=>
 refine ⟨gid,a0s,bs,rfl, ?_⟩
 have hall: ∀ (j:Nat) q,(first++ps++caps)[j]? =some q->Rep X w (c.N g D) g ((a0s++xs++bs).getD j undef) q:=by
  have h1:=Qw (X:=X) (w:=w) (N:=c.N g D) (g:=g) (xs:=a0s.toList) (ys:=xs.toList) (ps:=first) (qs:=ps) (by omega) (fun j p hp=>by simp_all) (fun j p hp=>by simp_all)
  have h2:=Qw (X:=X) (w:=w) (N:=c.N g D) (g:=g) (xs:=a0s.toList++xs.toList) (ys:=bs.toList) (ps:=first++ps) (qs:=caps) (by grind) h1 (fun j p hp=>by simp_all)
  grind [pT]
 have hsz:(a0s++xs++bs).size=(first++ps++caps).length:=by grind
 generalize a0s++xs++bs=vs at hall hsz
 generalize first++ps++caps=all at hr hall hsz
 obtain ⟨q1,σ1,D1,fp1,hr1,hF1,hl1,hq1⟩:=KL give all h (fun j=>vs.getD j undef) hall hr
 dsimp only at hr1
 generalize aAO (lim gid) q1=q at hr1
 generalize lim gid=l at hr1
 obtain ⟨bs1,fp2,hr2,hb1⟩:=aFY 100 _ [] (by simp) hr1
 obtain ⟨bs2,σ2,D2,fp3,hr3,hF2,hkeys,hb2,hplain⟩:=ac6 (ο:=aua w c.ο l (q.bind g.μ)) bs1 hF1.sim (fun x hx=>by
  obtain ⟨b,e1,e2⟩:=hb1 x hx
  exact DD hF1.sim e1 e2) hr2
 have h2:=hF2.sim
 obtain ⟨qs,σ3,fp4,G,δ,hr4,hl4,hSp,_,hδ,hδi,hqs⟩:=KR h2 give q1 (fun j=>vs.getD j undef) (.refl σ2) (fun j p hp=>hF2.rep (hq1 j p hp)) hr3
 rw [arE] at hSp
 generalize hqin:qIn q (bs2.map (·.1))=qin at hr4
 cases hh:kj qs bs2 with
 |false=>rw [hh] at hr4;exact hr4.elim
 |true=>
 cases qin with
 |false=>rw [hh] at hr4;exact hr4.elim
 |true=>
 rw [hh] at hr4
 obtain ⟨out,⟨hfn,hOK⟩,hr5⟩:=hr4
 refine ⟨hfn, ?_⟩
 obtain ⟨ν,hν⟩:=NN hb2
 have hoz: ∀b,w.heap.size<=b->aua w c.ο l (q.bind g.μ) b= #[]:=fun b hb=>by
  have hne:q.bind g.μ≠some b:=by
   intro e
   cases q with
   |none=>simp at e
   |some j=>
    simp only [an4] at e
    have:=(h2.new _ _ e).1
    omega
  simp only [aua]
  rw [if_neg hne]
  exact c.oz b (arA h2.ext.size hb)
 have hgiven:=(EE h2 false hoz (vs:=vs) (by omega) hb2 hh (fun j b hj=>by rw [hl4];exact hδ j b hj) hδi hqs hν (F:=fun b=>b.2.renK (bif arz q b.1 then kb gid else []) (aq0 (bs2.map (·.1)))) fun x hx g' t k hμ hbx=>hbx.renK _ _ rfl (fun _ _ _ _=>rfl) (fun _ _ _ h=>h) (.inl hx) hμ).2
 have hnd:=(Ac hh).2.2.1
 have hcalls:=hOK w vs _ ν δ _ hgiven
 have hqm: ∀j,q=some j->j∈bs2.map (·.1):=fun j hj=>by
  subst hj
  simp only [qIn] at hqin
  obtain ⟨i,hi,he⟩:=List.any_eq_true.1 hqin
  have:j=i:=by simpa using he
  grind
 have hbxs: ∀id∈bs2.map (·.1),∃bF bC,σ2.b id=some bF/\bF.cutIf (arz q id) l=some bC:=fun id hid=>by
  rw [hkeys] at hid
  obtain ⟨x,hx,rfl⟩:=art.1 hid
  obtain ⟨b,e1,e2⟩:=hb1 x hx
  exact ⟨b,x.2,(hF2.same.b _).trans e1,e2⟩
 obtain ⟨rs,hrs2⟩: ∃rs:List (PV U),∀id bF,σ2.b id=some bF->q=some id->rs=bF.rest l:=by
  cases q with
  |none=>simp
  |some j=>
   cases hj:σ2.b j with
   |none=>grind
   |some b=>exact ⟨b.rest l,fun id bF hb h=>by grind⟩
 have hrsq: ∀id∈bs2.map (·.1),q=some id-> ∃b,σ3.b id=some b/\rs=b.rest l:=fun id hid hq=>by
  obtain ⟨bF,_,e1,_⟩:=hbxs id hid
  exact ⟨bF,(hSp.b id).trans e1,hrs2 id bF e1 hq⟩
 have hnl:bs2.length=(bs2.map (·.1)).length:=by simp
 have state: ∀ {w':World} {cs:List (Box U)} {σ':St U} {fo:Option (Ob U)} {fval:Value} {fD:Option Nat} {ν':Nat->Nat} {δ':Nat->Option Nat} {new:List Nat} {d:Nat},(bs2.map (·.1)++new).Nodup->(bs2.map (·.1)++new).length=cs.length->(∀id∈new,σ2.b id=none)->(∀id∈new,id<1000000)->
   (∀i,(fo=none\/i≠d)->σ'.o i=σ3.o i/\σ'.u i=σ3.u i)->
   (∀ob,fo=some ob->σ'.o d=some ob/\σ'.u d= .wr/\(∀ob0,σ3.o d=some ob0->ob0.ver<ob.ver)/\ObOK X w' (NB (ee (c.N g D2) bs2.length ν δ) cs.length ν' δ') (gB U cs.length ν') ob.e ob.l fval .wr fD)->
   (∀b,fD=some b-> ∃j,δ' j=some b)->(fo=none->fD=none)->(∀n,σ'.r n=σ3.r n)->(∀id,id∉bs2.map (·.1)++new->σ'.b id=σ3.b id)->
   (∀ (k:Nat) id b,(bs2.map (·.1)++new)[k]? =some id->cs[k]? =some b->σ'.b id=some ((b.ren true fun i=>(bs2.map (·.1)++new).getD i 0).glue (bif arz q id then rs else [])))->
   Back X w w' (ee (c.N g D2) bs2.length ν δ) ν δ (aua w c.ο l (q.bind g.μ)) bs2.length qs.length ν' δ' cs->
   ∃g' D',Sim X c a.tmps w' σ' g' D'/\(∀v p,Rep X w' (NB (ee (c.N g D2) bs2.length ν δ) cs.length ν' δ') (gB U cs.length ν') v p->Rep X w' (c.N g' D') g' v (p.ren true fun i=>(bs2.map (·.1)++new).getD i 0))/\
    ∀ob,fo=some ob->g'.κ d=some (ob.ver,ob.e,fval):=by
  intro w' cs σ' fo fval fD ν' δ' new d k1 k2 k3 klow k4 k5 k6 k7 k8 k9 k10 k11
  rw [hnl] at k5 k11 ⊢
  refine h2.called (G:=G) k1 k2 hν k3 klow (fun j b hj=>(hδ j b hj).2) (fun i hi=> ?_) (fun i hi hc=> ?_) (fun ob hob=> ?_) k6 k7 (fun n=>(k8 n).trans (hSp.r n)) (fun id hid=>(k9 id hid).trans (hSp.b id)) k10 (fun N' g' hmono k id b hk hlt hB=> ?_) k11
  ·obtain ⟨ob,e1,e2,e3⟩:=hSp.spent i hi
   grind
  ·obtain ⟨e1,e2⟩:=hSp.other i hi
   grind
  ·obtain ⟨e1,e2,e3,e4⟩:=k5 ob hob
   refine ⟨e1,e2,fun ob0 h0=> ?_,e4⟩
   by_cases hdG:d∈G
   ·obtain ⟨ob1,f1,f2,_⟩:=hSp.spent d hdG
    grind
   ·exact e3 ob0 ((hSp.other d hdG).1.trans h0)
  ·by_cases hkl:k<(bs2.map (·.1)).length
   ·rw [List.getElem?_append_left hkl] at hk
    obtain ⟨bF,bC,e1,e2⟩:=hbxs id (as2 hk)
    refine aF2 h2 hmono ?_ e1 (hrs2 id bF e1) e2 hB
    rw [k11.old k hkl]
    grind
   ·have hid:id∈new:=by
     grind
    have hsq:arz q id=false:=by
     grind [sameId_iff]
    have hge:w.heap.size<=ν' k:=k11.new k (by omega) hlt
    rw [hsq,cond_false,Box.glue_nil,c.oz _ (arA h2.ext.size hge)]
    grind
 have hlren:(PV.renL false (aq0 (bs2.map (·.1))) qs).length=qs.length:=by simp [atk]
 refine hCP hcalls fun e w' hret=> ?_
 rw [List.length_map,hlren] at hret
 cases e with
 |outgrown=>exact hret.elim
 |returned rv=>
  cases out with
  |panic v cs=>exact hret.elim
  |ret v cs=>
   simp only at hr5
   cases hble:arq (bs2.map (·.1)).length cs.length with
   |false=>
    rw [hble] at hr5
    simp only [cond_false] at hr5
    generalize hgv:(bs2.map fun b=>b.2.renK (bif arz q b.1 then kb gid else []) (aq0 (bs2.map (·.1))))=gv at hret
    have hgvl:gv.length=(bs2.map (·.1)).length:=by rw [<-hgv];simp
    have hful:Out.full gv (.ret v cs)= .ret v (auy gv cs):=by
     grind [Out.full]
    rw [hful] at hret
    obtain ⟨ν',δ',hback,hrep⟩:=hret
    have main:v.noFresh->(bif bs1.all fun x=>x.2.stb then ayk q bs1 (fun i=>(bs2.map (·.1)++cK ((dst.getD 0+1)*1000) (cs.length-(bs2.map (·.1)).length)).getD i 0) cs (put dst (PV.ren true (fun i=>(bs2.map (·.1)++cK ((dst.getD 0+1)*1000) (cs.length-(bs2.map (·.1)).length)).getD i 0) v)) else .fail:M U).Rel (jS X CP) σ3 fp4 r τ gp->next (a.put dst rv) w':=by
     intro hnf hr5
     have hcl:cs.length-(bs2.map (·.1)).length=0:=by
      grind [Nat.ble_eq_true_of_le]
     rw [hcl] at hr5
     simp only [cK,arE] at hr5
     cases hpl:bs1.all fun x=>x.2.stb with
     |false=>rw [hpl] at hr5;exact hr5.elim
     |true=>
     rw [hpl] at hr5
     simp only [cond_true] at hr5
     obtain ⟨hbb,hss⟩:=hplain hpl
     subst hbb
     have hσ: ∀id,σ3.b id=σ1.b id:=fun id=>by rw [hSp.b,hss]
     have hbx: ∀x∈bs2,∃b,σ3.b x.1=some b/\b.cutIf (arz q x.1) l=some x.2:=fun x hx=>by
      grind
     obtain ⟨σ4,fp6,hr6,s1,s2,s3,s4,hcase⟩:=aG_ hnd (fun x hx hs=>by
      obtain ⟨b,e1,e2⟩:=hbx x hx
      rw [hs] at e2
      simp only [Box.cutIf,cond_false,Option.some.injEq] at e2
      rw [e1,e2]) hr5
     have hpi: ∀i∈bs2.map (·.1),(fun i=>(bs2.map (·.1)).getD i 0) (aq0 (bs2.map (·.1)) i)=i:=fun i hi=>by
      grind [AG]
     have hids:=(Ac hh).2.2.2.2
     have same: ∀ (k:Nat) id b,(bs2.map (·.1))[k]? =some id->gv[k]? =some b->σ4.b id=σ3.b id->σ4.b id=some ((b.ren true fun i=>(bs2.map (·.1)).getD i 0).glue (bif arz q id then rs else [])):=by
      intro k id b hk hb hsame
      rw [List.getElem?_map,Option.map_eq_some_iff] at hk
      obtain ⟨y,hy,rfl⟩:=hk
      rw [<-hgv,List.getElem?_map,hy] at hb
      injection hb with hb
      have hym:=as2 hy
      have hb:Box.renK _ _ y.2=b:=hb
      subst hb
      obtain ⟨b0,e1,e2⟩:=hbx y hym
      rw [aE3 (ars.1 hpl y hym) fun i hi=>hpi i (hids y hym i hi),aF1 e2 fun hs=>hrs2 _ _ (by grind) (sameId_iff.1 hs),hsame]
      exact e1
     obtain ⟨g',D',hs,htr,_⟩:=state (new:=[]) (fo:=none) (fval:=undef) (fD:=none) (d:=0) (σ':=σ4) (cs:=auy gv cs) (by simpa using hnd) (by rw [arE,<-hgvl];unfold auy;split<;>(try split)<;>simp) (by simp) (by simp) (fun i _=>⟨s2 i,s3 i⟩) (by simp) (by simp) (fun _=>rfl) s1 (fun id hid=>s4 id (by simpa using hid)) (fun k id b hk hb=>by
      rw [arE] at hk ⊢
      rcases hcase with ⟨rfl,hall⟩|⟨kd,n,pa,pid,pg,rfl,hbs,hle,hsq,hpb,hoth⟩
      ·exact same k id b hk hb (hall id)
      ·have hgn:gv[n.toNat]? =some (.cells (PV.renK (aq0 (bs2.map (·.1))) [] pg)):=by
        grind [Box.renK]
       have hidn:(bs2.map (·.1))[n.toNat]? =some pid:=by rw [List.getElem?_map,hbs];rfl
       simp only [auy,hgn] at hb
       by_cases hkn:k=n.toNat
       ·subst hkn
        rw [hk] at hidn
        injection hidn with hidn
        subst hidn
        have hlt:n.toNat<gv.length:=(asn.1 hgn).1
        rw [List.getElem?_set_self hlt] at hb
        injection hb with hb
        subst hb
        rw [hsq,cond_false,Box.glue_nil,hpb]
        have hst:PV.renL true (fun i=>(bs2.map (·.1)).getD i 0) (PV.renK (aq0 (bs2.map (·.1))) [] pg)=pg:=by
         have hym:=as2 hbs
         exact azQ pg (ars.1 hpl _ hym) fun i hi=>hpi i (hids _ hym i hi)
        grind [atk,Box.ren,List.map_drop]
       grind [List.getElem?_inj]) (by omega)
     have hpl2:(auy gv cs).length=gv.length:=by unfold auy;split<;>(try split)<;>simp
     have hrep:RepR X w' _ _ rv δ' v:=hrep
     have hv:=htr _ _ (agQ hrep hnf)
     rw [arE] at hv
     obtain ⟨e1,e2⟩:=rl hr6
     subst e2
     have:=hs.putAct (o:=o) hd hv
     rw [ho] at this
     exact ht.done e1 _ _ _ _ this.2 this.1
    split at hr5
    ·exact hr5.elim
    ·exact hr5.elim
    ·rename_i h1 h2
     refine main ?_ hr5
     cases v with
     |tuple vs=>grind
     |fresh e l=>grind
     |sl e l o=>rfl
     |_=>rfl
   |true=>
   rw [hble] at hr5
   simp only [cond_true] at hr5
   have hful:Out.full (bs2.map fun b=>b.2.renK (bif arz q b.1 then kb gid else []) (aq0 (bs2.map (·.1)))) (.ret v cs)= .ret v cs:=by
    grind [Out.full]
   rw [hful] at hret
   obtain ⟨ν',δ',hback,hrep⟩:=hret
   have hle:(bs2.map (·.1)).length<=cs.length:=by simpa using hble
   obtain ⟨hfree,fp5,hr6⟩:=ac5 _ hr5
   generalize hnew:cK ((dst.getD 0+1)*1000) (cs.length-(bs2.map (·.1)).length)=new at hr6 hfree
   have hnl2:new.length=cs.length-(bs2.map (·.1)).length:=by grind [AB]
   have hnn:new.Nodup:=by grind [agV]
   have hfree': ∀id∈new,σ2.b id=none:=fun id hid=>(hSp.b id).symm.trans (hfree id hid).1
   have hlow': ∀id∈new,id<1000000:=fun id hid=>(hfree id hid).2
   have hnd2:(bs2.map (·.1)++new).Nodup:=by
    grind
   have hlen2:(bs2.map (·.1)++new).length=cs.length:=by grind
   have hzip:((bs2.map (·.1)++new).zip (cs.map (Box.ren true fun i=>(bs2.map (·.1)++new).getD i 0))).map (·.1)=bs2.map (·.1)++new:=List.map_fst_zip (Nat.le_of_eq (by rw [hlen2];simp))
   obtain ⟨σ4,fp6,hr7,s1,s2,s3,s4,s5⟩:=aDk (rs:=rs) _ (by grind) (fun id hid hq=>hrsq id (hqm id hq) hq) hr6
   have hbn: ∀ (k:Nat) id b,(bs2.map (·.1)++new)[k]? =some id->cs[k]? =some b->σ4.b id=some ((b.ren true fun i=>(bs2.map (·.1)++new).getD i 0).glue (bif arz q id then rs else [])):=by
    intro k id b hk hb
    exact s5 (id,b.ren true fun i=>(bs2.map (·.1)++new).getD i 0) (as2 (i:=k) (by grind))
   have hbo: ∀id,id∉bs2.map (·.1)++new->σ4.b id=σ3.b id:=fun id hid=>s4 id (by rw [hzip];exact hid)
   rcases akO hr7 with ⟨fp7,hr8,hnf⟩|⟨e,l,nv,fp7,hver,hcase⟩
   ·obtain ⟨g',D',hs,htr,_⟩:=state (fo:=none) (fval:=undef) (fD:=none) (d:=0) hnd2 hlen2 hfree' hlow' (fun i _=>⟨s2 i,s3 i⟩) (by simp) (by simp) (fun _=>rfl) s1 hbo hbn hback
    have hv:=htr _ _ (agQ hrep (ain hnf))
    obtain ⟨e1,e2⟩:=rl hr8
    subst e2
    have:=hs.putAct (o:=o) hd hv
    rw [ho] at this
    exact ht.done e1 _ _ _ _ this.2 this.1
   ·
    have fin: ∀ {fval:Value} {fD:Option Nat} {q:PV U},ObOK X w' (NB (ee (c.N g D2) bs2.length ν δ) cs.length ν' δ') (gB U cs.length ν') e l fval .wr fD->(∀b,fD=some b-> ∃j,δ' j=some b)->(put dst q).Rel (jS X CP) ((σ4.setO (dst.getD 0) ⟨nv,e,l⟩).setU (dst.getD 0) .wr) fp7 r τ gp->
      (∀g' D',(∀v p,Rep X w' (NB (ee (c.N g D2) bs2.length ν δ) cs.length ν' δ') (gB U cs.length ν') v p->Rep X w' (c.N g' D') g' v (p.ren true fun i=>(bs2.map (·.1)++new).getD i 0))->g'.κ (dst.getD 0)=some (nv,e,fval)->Rep X w' (c.N g' D') g' rv q)->next (a.put dst rv) w':=by
     intro fval fD q hO hfD hput hq
     obtain ⟨g',D',hs,htr,hκ⟩:=state (fo:=some ⟨nv,e,l⟩) (fval:=fval) (fD:=fD) (d:=dst.getD 0) (σ':=(σ4.setO (dst.getD 0) ⟨nv,e,l⟩).setU (dst.getD 0) .wr) hnd2 hlen2 hfree' hlow' (fun i hi=>by
       have hi':dst.getD 0≠i:=by grind
       simp [hi',s2 i,s3 i]) (fun ob hob=>by
       injection hob with hob
       subst hob
       exact ⟨by simp,by simp,fun ob0 h0=>hver ob0 ((s2 _).trans h0),hO⟩) hfD (by simp) (fun n=>by simpa using s1 n) (fun id hid=>by simpa using hbo id hid) (fun k id b hk hb=>by simpa using hbn k id b hk hb) hback
     obtain ⟨e1,e2⟩:=rl hput
     subst e2
     have:=hs.putAct (o:=o) hd (hq g' D' htr (hκ _ rfl))
     rw [ho] at this
     exact ht.done e1 _ _ _ _ this.2 this.1
    rcases hcase with ⟨hv,hr8⟩|⟨pre,post,hv,hr8,hpre,hpost⟩
    ·have hv':=Qr hv
     subst hv'
     have hO:ObOK X w' (NB (ee (c.N g D2) bs2.length ν δ) cs.length ν' δ') (gB U cs.length ν') e l rv .wr (δ' 0):=hrep
     exact fin hO (fun b hb=>⟨0,hb⟩) hr8 fun g' D' _ hκ=>by
      obtain ⟨A,n,cp,hval,_⟩:=hO.val
      exact .own _ nv rv nv e rv hκ (aru _) (fun _=>rfl) ⟨A,n,cp,hval⟩
    ·obtain ⟨pvs,rfl,hpvs⟩:=aio hv
     obtain ⟨arr,rfl,harrl,harr⟩:=hrep
     have hlenp:pvs.length=pre.length+1+post.length:=by
      have:=congrArg List.length hpvs;simp at this;omega
     have hj:pre.length<pvs.length:=by omega
     have hgetj:(pvs.map (PV.ren true fun i=>(bs2.map (·.1)++new).getD i 0))[pre.length]? =some (.fresh e l):=by
      grind
     have hpj:pvs[pre.length]? =some (.fresh e l):=by
      grind [Qr]
     have hO:=harr _ _ hpj
     refine fin hO (fun b hb=>⟨pre.length,hb⟩) hr8 fun g' D' htr hκ=> ?_
     refine .tuple arr _ (by grind) fun j q hq=> ?_
     obtain ⟨A,n,cp,hval,_⟩:=(show ObOK X w' _ _ e l (arr.getD pre.length undef) .wr (δ' pre.length) from hO).val
     have hothers: ∀ (j:Nat) q,j≠pre.length->(pre++ .fresh e l::post)[j]? =some q->Rep X w' (c.N g' D') g' (arr.getD j undef) q:=by
      intro j q hne hq
      have hq':=hq
      rw [hpvs,List.getElem?_map,Option.map_eq_some_iff] at hq
      obtain ⟨q0,hq0,rfl⟩:=hq
      refine htr _ _ ((harr j q0 hq0).rep ?_)
      rw [<-Bk (keep:=true) (ρ:=fun i=>(bs2.map (·.1)++new).getD i 0)]
      by_cases hjl:j<pre.length
      ·grind
      ·rw [List.getElem?_append_right (by omega)] at hq'
       obtain ⟨k,hk⟩: ∃k,j-pre.length=k+1:=⟨j-pre.length-1,by omega⟩
       grind
     by_cases hjp:j=pre.length
     ·subst hjp
      rw [List.getElem?_append_right (aru _)] at hq
      simp at hq
      subst hq
      exact .own _ nv _ nv e _ hκ (aru _) (fun _=>rfl) ⟨A,n,cp,hval⟩
     ·refine hothers j q hjp ?_
      by_cases hjl:j<pre.length
      ·grind
      ·rw [List.getElem?_append_right (by omega)] at hq ⊢
       grind
 |panicked chain=>
  cases out with
  |ret v cs=>
   exfalso
   unfold Out.full at hret
   dsimp only at hret
   revert hret
   cases arq (bs2.map fun b=>b.2.renK (bif arz q b.1 then kb gid else []) (aq0 (bs2.map (·.1)))).length cs.length<;>exact id
  |panic v cs=>
   obtain ⟨hcl,val,rfl,hback,hrep⟩:=hret
   simp only at hr5
   cases hble:aoy (bs2.map (·.1)).length cs.length with
   |false=>rw [hble] at hr5;exact hr5.elim
   |true=>
   rw [hble] at hr5
   simp only [cond_true] at hr5
   have hle:(bs2.map (·.1)).length=cs.length:=by omega
   have hzip:((bs2.map (·.1)).zip (cs.map (Box.ren true fun i=>(bs2.map (·.1)).getD i 0))).map (·.1)=bs2.map (·.1):=List.map_fst_zip (Nat.le_of_eq (by simpa using hle))
   obtain ⟨σ4,fp6,hr7,s1,s2,s3,s4,s5⟩:=aDk (rs:=rs) _ (by rw [hzip];exact hnd) (fun id hid hq=>hrsq id (hqm id hq) hq) hr5
   obtain ⟨e1,e2,_⟩:=hr7
   subst e2
   obtain ⟨g',D',hs,htr,_⟩:=state (new:=[]) (fo:=none) (fval:=undef) (fD:=none) (d:=0) (cs:=cs) (ν':=ν) (δ':=fun _=>none) (by simpa using hnd) (by simpa using hle) (by simp) (by simp) (fun i _=>⟨s2 i,s3 i⟩) (by simp) (by simp) (fun _=>rfl) s1
    (fun id hid=>by
     grind) (fun k id b hk hb=>by
     rw [arE] at hk ⊢
     exact s5 (id,b.ren true fun i=>(bs2.map (·.1)).getD i 0) (as2 (i:=k) (by grind))) hback
   rw [hcl] at htr
   have hv:=htr _ _ hrep
   rw [arE] at hv
   exact ht.raise _ e1 w' g' D' val hv hs
theorem ZU {lim:FuncId->Nat} {kb:FuncId->List Bool} (h:Sim X c a.tmps w σ g D) {give:List Bool} {p:PV U} {ps:List (PV U)} {fv:Value} {xs:Array Value} (hp:Rep X w (c.N g D) g fv p) (hxl:ps.length=xs.size)
  (hx: ∀ (j:Nat) q,ps[j]? =some q->Rep X w (c.N g D) g (xs.getD j undef) q) {o:Oper} (ho:o.dst=dst) (hd:bq c.nt o=true) (hr:(iV lim kb give dst p ps).Rel (ci X) σ fp r τ gp) (ht:Then X c a r τ next Q):
  ∃f a0s bs,fv= .func (.func f) a0s bs/\(∃fn,P.funcs[f]? =some fn/\(fn.name== "runtime.NumGoroutine")=false/\fn.body.isNone=false)/\
   Calls P f (a0s++xs++bs) w fun
    | .returned v,w''=>next (a.put dst v) w''
    | .panicked chain,w''=>Q (.panic chain) a w''
    | .outgrown,_=>LetsOut Q:=
 Jv (CP:=Calls P) (fun hc hm=>hc.mono hm) h hp hxl hx ho hd hr ht
end
section
variable {U:Uni} {V:Env U} {P:Program} {X:Link V P} {S:Side U} {c:Ctx} {a:Act} {w:World} {σ:St U} {g:Gh U} {D:Nat->Option Nat}
variable {next:Act->World->Prop} {Q:Exit->Act->World->Prop} {r:MR U} {τ:St U} {fp gp:List Loc} {N:aN}
variable {dst:Option Tmp} {ty:TypeId} {pos:String} {after:Array Edge} {gd:Option (Nat×Bool)}
def lf (X:Link V P):Prop:= ∀ (f:FuncId) (ps:List (PV U)) (e:U.E) (l l':List (U.El e)),V.inpl f ps e l=some l'->
 (∃fn,P.funcs[f]? =some fn/\(fn.name== "runtime.NumGoroutine")=false/\fn.body.isNone=false)/\
 ∀ (w:World) (vs:Array Value) (N0:aN) (δ:Nat->Option Nat) (ο:Nat->Array Value),Given X w vs N0 (fun _=>0) δ ο (.fresh e l::ps) []->(∀j,j≠0->δ j=none)->Calls P f vs w fun
  | .returned rv,w'=>rv= .tuple #[]/\Ext (avg 0 (ps.length+1) (fun _=>0) δ) w w'/\ObOK X w' (NB N0 0 (fun _=>0) δ) (gB U 0 fun _=>0) e l' (vs.getD 0 undef) .wr (δ 0)
  |_,_=>False
theorem adm (hI:lf X) (h:Sim X c a.tmps w σ g D) {f:FuncId} {x:PV U} {ps:List (PV U)} {xs:Array Value} (hxl:ps.length+1=xs.size) (hx:Rep X w (c.N g D) g (xs.getD 0 undef) x)
  (hps: ∀ (j:Nat) q,ps[j]? =some q->Rep X w (c.N g D) g (xs.getD (j+1) undef) q) {o:Oper} (ho:o.dst=dst) (hd:bq c.nt o=true) (hr:(EM V dst f x ps).Rel (ci X) σ fp r τ gp) (ht:Then X c a r τ next Q):
  (∃fn,P.funcs[f]? =some fn/\(fn.name== "runtime.NumGoroutine")=false/\fn.body.isNone=false)/\Calls P f xs w fun
   | .returned v,w''=>next (a.put dst v) w''
   | .panicked chain,w''=>Q (.panic chain) a w''
   | .outgrown,_=>LetsOut Q:=by
 unfold EM at hr
 split at hr
 case h_2=>exact hr.elim
 rename_i i ver
 obtain ⟨ob,fp1,hob,hver,hr1⟩:=mF hr
 simp only [M.Rel] at hr1
 have hO:=GV h hx hob hver
 cases hu:σ.u i with
 |read=>rw [hu] at hr1;exact hr1.elim
 |app=>rw [hu] at hr1;exact hr1.elim
 |wr=>
 rw [hu] at hr1 hO
 dsimp only at hr1
 cases hb:(PV.noObjL ps&&(PV.idsL ps).isEmpty&&ps.all PV.notFresh) with
 |false=>rw [hb] at hr1;exact hr1.elim
 |true=>
 rw [hb] at hr1
 simp only [anZ] at hb
 obtain ⟨⟨hno,hids⟩,hnf⟩:=hb
 have hids':PV.idsL ps=[]:=by grind
 obtain ⟨l',hl',hr2⟩:=hr1
 obtain ⟨h1,h2⟩:=hI _ _ _ _ _ hl'
 refine ⟨h1, ?_⟩
 let δ:Nat->Option Nat:=fun j=>if j=0 then D i else none
 have hδ: ∀j b,δ j=some b->j=0/\D i=some b:=by
  grind
 have hNB:NB (ee (c.N g D) 0 (fun _=>0) δ) 0 (fun _=>0) δ=c.N g D:=Jw (fun k o hk=>by omega) fun j b o hj=> .inr (.inr ⟨i,(hδ j b hj).2⟩)
 have hgiven:Given X w xs (ee (c.N g D) 0 (fun _=>0) δ) (fun _=>0) δ (fun _=> #[]) (.fresh ob.e ob.l::ps) []:=by
  refine ⟨⟨fun i j hi=>by simp at hi,fun i hi=>by simp at hi,fun j b hj=>(h.dnew i b (hδ j b hj).2).1,fun p q b hp hq=>by grind,fun j b hj i hi=>by simp at hi,fun b o hn=>⟨Jg h hn.1,by simp,hn.2.2⟩⟩,by grind,fun j b hj=>by grind,fun b o hb=>⟨(h.glob hb).1,by simp,fun j hj=>(h.glob hb).2.2 i (hδ j b hj).2⟩,fun j p hp=> ?_,by simp,fun _ _=>rfl⟩
  simp only [List.length_nil,hNB]
  cases j with
  |zero=>
   simp at hp
   subst hp
   exact hO.turn (fun _ _=>rfl) (fun _ _ _ _=>rfl) (fun _ _ _ h=>h)
  |succ j=>
   have hp':ps[j]? =some p:=by grind
   have hrep:=(hps j p hp').plain (g':=gB U 0 fun _=>0) (w':=w) (N':=c.N g D) (fun _ _ _ _=>rfl) (fun _ _ _ h=>h) (at0 hno hp') fun i hi b hb=>by
    have:=fj hp' i hi
    grind
   grind [RepG.of]
 refine (h2 w xs _ δ _ hgiven fun j hj=>by grind).mono fun e w' he=> ?_
 cases e with
 |returned rv=>
  obtain ⟨rfl,hext,hO'⟩:=he
  rw [hNB] at hO'
  have hs:Sim X c a.tmps w' (σ.setO i ⟨ob.ver,ob.e,l'⟩) g D:=by
   obtain ⟨val,hkap,hOo⟩:=h.objs i ob hob
   have hval:xs.getD 0 undef=val:=by
    have h0:=hx
    generalize xs.getD 0 undef=v0 at h0
    cases h0<;>grind
   have hblk: ∀b,b<w.heap.size->D i≠some b->w'.heap[b]? =w.heap[b]? :=fun b hb hne=>hext.block b hb fun hm=>by
    grind [avg]
   refine h.objsTurn (fun j=>j=i) hext.os hext.tape hext.output hext.size (fun b hb hne=>hblk b hb (hne i rfl)) (fun _=>rfl) (fun _=>rfl) rfl (Gh.le.refl g) (fun j b hj=> ?_) (fun j j' b _ hj hj'=>h.dinj _ _ _ hj hj') (fun j hj=>⟨by grind [St.setO_o],rfl,rfl,rfl⟩) (fun j ob' hj ho'=> ?_) (fun j hj ho'=>by simp_all)
   ·grind
   ·subst hj
    rw [St.setO_o,if_pos rfl] at ho'
    injection ho' with ho'
    subst ho'
    refine ⟨val,hkap, ?_⟩
    rw [hval] at hO'
    simp only [St.setO_u,hu]
    have hDe:δ 0=D j:=by rfl
    rw [hDe] at hO'
    exact hO'.mono (fun _ _=>rfl) (fun _ _ _ _=>rfl) (fun _ _ _ h=>h) ⟨fun id b hb=>by simp [gB] at hb,fun i ver e val hk=>by simp [gB] at hk⟩
  obtain ⟨e1,e2⟩:=rl hr2
  subst e2
  have:=hs.putAct (o:=o) hd (v:= .tuple #[]) (p:= .tuple []) (.tuple #[] [] rfl (by simp))
  rw [ho] at this
  exact ht.done e1 _ _ _ _ this.2 this.1
 |panicked ch=>exact he.elim
 |outgrown=>exact he.elim
theorem ag_ (hI:lf X) {cl:Call} {f:Operand} (hc:cl.callee= .value f) (hd:bq c.nt ⟨dst,.call cl,ty,pos,after,gd⟩=true) (h:Sim X c a.tmps w σ g D) (hr:(bL V S ⟨dst,.call cl,ty,pos,after,gd⟩).Rel (ci X) σ fp r τ gp)
  (ht:Then X c a r τ next Q):(⟨dst,.call cl,ty,pos,after,gd⟩:Oper).wp P a w next Q:=by
 obtain ⟨callee,args,ats⟩:=cl
 simp only at hc
 subst hc
 simp only [bL] at hr
 obtain ⟨p,fp1,hp,hr1⟩:=b9 h hr
 obtain ⟨ps,fp2,hl,hps,hr2⟩:=zX h hr1
 have hargs: ∀ (j:Nat) q,ps[j]? =some q->Rep X w (c.N g D) g ((args.map a.eval).getD j undef) q:=fun j q hq=>by
  simp_all
 have hsz:ps.length=(args.map a.eval).size:=by grind
 have fin: ∀ {gid:FuncId} {a0s bs:Array Value},a.eval f= .func (.func gid) a0s bs->(∃fn,P.funcs[gid]? =some fn/\(fn.name== "runtime.NumGoroutine")=false/\fn.body.isNone=false)->Calls P gid (a0s++args.map a.eval++bs) w (fun
    | .returned v,w''=>next (a.put dst v) w''
    | .panicked chain,w''=>Q (.panic chain) a w''
    | .outgrown,_=>LetsOut Q)->(⟨dst,.call ⟨.value f,args,ats⟩,ty,pos,after,gd⟩:Oper).wp P a w next Q:=by
  intro gid a0s bs he hfn hcalls
  obtain ⟨fn,f1,f2,f3⟩:=hfn
  unfold Oper.wp
  rw [aiG rfl he,QP f1 f2 f3]
  exact hcalls
 split at hr2
 ·rename_i gid x rest hin
  have hx0:=hargs 0 x rfl
  obtain ⟨h1,h2⟩:=adm hI h (o:=⟨dst,.call ⟨.value f,args,ats⟩,ty,pos,after,gd⟩) (xs:=args.map a.eval) (by omega) hx0 (fun j q hq=>hargs (j+1) q (by grind)) rfl hd hr2 ht
  generalize he:a.eval f=fv at hp
  cases hp<;>grind
 ·obtain ⟨gid,a0s,bs,he,hfn,hcalls⟩:=ZU h (o:=⟨dst,.call ⟨.value f,args,ats⟩,ty,pos,after,gd⟩) hp hsz hargs rfl hd hr2 ht
  exact fin he hfn hcalls
end
section
variable {U:Uni} {V:Env U} {P:Program} {X:Link V P} {K:cj U} {S:Side U} {c:Ctx} {a:Act} {w:World} {σ:St U} {g:Gh U} {D:Nat->Option Nat}
variable {next:Act->World->Prop} {Q:Exit->Act->World->Prop} {r:MR U} {τ:St U} {fp gp:List Loc} {N:aN}
variable {dst:Option Tmp} {ty:TypeId} {pos:String} {after:Array Edge} {gd:Option (Nat×Bool)}
theorem ahk {t:TypeId} (hd:bq c.nt ⟨dst,.makeMap t none,ty,pos,after,gd⟩=true) (h:Sim X c a.tmps w σ g D) (hr:(bL V S ⟨dst,.makeMap t none,ty,pos,after,gd⟩).Rel K σ fp r τ gp)
  (ht:Then X c a r τ next Q):(⟨dst,.makeMap t none,ty,pos,after,gd⟩:Oper).wp P a w next Q:=by
 simp only [bL] at hr
 split at hr
 case h_2=>exact hr.elim
 rename_i d e he
 simp only [M.Rel] at hr
 split at hr
 case h_2=>exact hr.elim
 rename_i hfree
 obtain ⟨h1,h2,_⟩:=hr
 subst h2
 have hs:=h.newBox hfree (c.free (zH hd)) (o:= .map #[] 0) (b:= .map e []) ⟨#[],0,heap_alloc_new w _,rfl,by simp⟩
 obtain ⟨h3,h4⟩:=hs.putAct (o:=⟨some d,.makeMap t none,ty,pos,after,gd⟩) hd (p:= .mp d) (.mp d w.heap.size (by simp [Gh.put]))
 unfold Oper.wp
 have hrun:(execOp a.eval ⟨some d,.makeMap t none,ty,pos,after,gd⟩).run P w= .ok (.value (.map (some w.heap.size))) (w.alloc (.map #[] 0)):=by
  rfl
 rw [hrun]
 exact ht.done h1 _ _ _ _ h4 h3
structure KeyT (P:Program) (kt:TypeId) (n:Nat) (fs:Array Field):Prop where
 und:P.underlying kt=some (.struct fs)
 stood:P.stoodInHeld kt=false
 size:fs.size=n
 ints: ∀ (i:Nat) (f:Field),fs[i]? =some f->f.name≠ "_" /\f.offset=i/\ ∃k,P.underlying f.type=some (.int k)
theorem NH {t:TypeId} {e:U.E} (X:Link V P) (h:V.isMt t e=true):(∃b i,P.underlying t=some (.map (X.etid e) b)/\P.info? b=some i/\i.zero=some (.bool false))/\(∃fs,KeyT P (X.etid e) (X.esize e) fs)/\
  ∀x y,∃b,PV.eqvI (V.cells e x) (V.cells e y)=some b:=by
 unfold Env.isMt at h
 split at h
 ·rename_i e' he
  split at h
  ·rename_i hh
   subst hh
   refine ⟨Nx X he, ?_⟩
   unfold Env.mty at he
   split at he
   ·rename_i row hrow
    obtain ⟨⟨fs,h1,h2,h3,h4⟩,h5⟩:=X.keyT t row _ hrow he
    exact ⟨⟨fs,h1,h2,h3,h4⟩,h5⟩
   grind
  simp_all
 simp_all
theorem QQ {kt:TypeId} {n:Nat} {fs:Array Field} (hk:KeyT P kt n fs) (em:Bool) (d:Nat) (vs:Array Value) (hs:vs.size=n) (w:World):
  (Instr.checkKey em (d+2) kt (.agg vs)).run P w= .ok () w:=by
 simp only [Instr.checkKey,arV,run_underlying hk.und,arS]
 rw [<-Array.forIn_toList]
 have hf: ∀f∈fs.toList,f.name≠ "_" /\(∃v,vs[f.offset]? =some v)/\ ∃k,P.underlying f.type=some (.int k):=by
  intro f hf
  obtain ⟨i,hi⟩:=List.mem_iff_getElem?.1 hf
  have hi':fs[i]? =some f:=by grind
  obtain ⟨h1,h2,h3⟩:=hk.ints i f hi'
  have hlt:i<vs.size:=by rw [hs,<-hk.size];grind
  simp_all
 generalize fs.toList=l at hf
 induction l with
 |nil=>simp
 |cons f l ih=>
  obtain ⟨h1,⟨v,hv⟩,k,hk'⟩:=hf f (by simp)
  have:=ih fun f hf'=>hf f (by simp [hf'])
  simp only [List.forIn_cons,arV,h1,ne_eq,not_false_eq_true,if_true,G7 hk' hv,arS,Instr.checkKey,run_underlying hk',Sem.run_pure]
  exact this
def jR (X:Link V P) (w:World) (N:aN) (g:Gh U) (e:U.E) (x:U.El e) (k:Value):Prop:= ∃vs,k= .agg vs/\vs.size=X.esize e/\ ∀ (j:Nat) p,(V.cells e x)[j]? =some p->Rep X w N g (vs.getD j undef) p
theorem aiC {e:U.E} {fs:Array Field} (hk:KeyT P (X.etid e) (X.esize e) fs) {x y:U.El e} {u v:Value} (hx:jR X w N g e x u) (hy:jR X w N g e y v) {b:Bool} (hb:PV.eqvI (V.cells e x) (V.cells e y)=some b):
  (Op.equal (X.etid e) u v).run P w= .ok b w:=by
 obtain ⟨xs,rfl,hxl,hxs⟩:=hx
 obtain ⟨ys,rfl,hyl,hys⟩:=hy
 have hF:P.fieldsOf (X.etid e)=fs:=by simp [Program.fieldsOf,hk.und]
 show (Op.equalIn (9998+1+1) (X.etid e) (.agg xs) (.agg ys)).run P w=_
 rw [run_equalIn_struct w (9998+1) _ xs ys (by rw [hF];exact hk.und) hk.stood,hF]
 exact QR (X:=X) (g:=g) (N:=N) 9998 xs ys fs.toList _ _ 0 b hb (by rw [X.len];simpa using hk.size) (fun i p hi=>by
  simp only [asP];exact ⟨hxs i p hi,by rw [hxl,<-X.len e x];grind⟩) (fun i p hi=>by
  simp only [asP];exact ⟨hys i p hi,by rw [hyl,<-X.len e y];grind⟩) (fun i f hf=>by
  have:=hk.ints i f (by grind);grind)
theorem QW {e:U.E} {fs:Array Field} (hk:KeyT P (X.etid e) (X.esize e) fs) (htot: ∀x y,∃b,PV.eqvI (V.cells e x) (V.cells e y)=some b) {x:U.El e} {u:Value} (hx:jR X w N g e x u) (b:Bool):
  ∀ (l:List (U.El e×Bool)) (en:List MapEntry) (i:Nat),en.length=l.length->(∀ (j:Nat) y t,l[j]? =some (y,t)-> ∃m,en[j]? =some m/\m.val= .bool t/\jR X w N g e y m.key)->
  (dW V e l x=none/\fz V e l x b=l++[(x,b)]/\(Instr.findAsking (X.etid e) u en i).run P w= .ok none w)\/
  ∃j y t,l[j]? =some (y,t)/\eS V e y x=true/\dW V e l x=some t/\fz V e l x b=l.set j (y,b)/\(Instr.findAsking (X.etid e) u en i).run P w= .ok (some (i+j,.bool t)) w:=by
 intro l
 induction l with
 |nil=>
  intro en i hl _
  have:en=[]:=List.eq_nil_of_length_eq_zero hl
  subst this
  exact .inl ⟨rfl,rfl,rfl⟩
 |cons yt l ih=>
  intro en i hl hen
  obtain ⟨y,t⟩:=yt
  cases en with
  |nil=>simp at hl
  |cons m en=>
   obtain ⟨m',hm,hmv,hmk⟩:=hen 0 y t rfl
   simp at hm
   subst hm
   obtain ⟨bb,hbb⟩:=htot x y
   obtain ⟨bc,hbc⟩:=htot y x
   have hsym:bb=bc:=by
    have key: ∀ (a0s bs:List (PV U)) (p q:Bool),PV.eqvI a0s bs=some p->PV.eqvI bs a0s=some q->p=q:=by
     intro a0s
     induction a0s with
     |nil=>grind [PV.eqvI]
     |cons z a0s ih2=>
      intro bs p q h1 h2
      obtain ⟨hlen,hh⟩:=ur h1
      cases bs with
      |nil=>grind
      |cons z' bs=>
       obtain ⟨k,m1,m2,rfl,rfl⟩:=hh 0 z z' rfl rfl
       grind [PV.eqvI]
    grind
   have heq:=aiC (w:=w) hk hx hmk hbb
   have hel:eS V e y x=bb:=by grind [eS]
   simp only [Instr.findAsking,arV,heq,arS]
   cases bb with
   |true=>
    refine .inr ⟨0,y,t,rfl,hel,by simp [dW,hel],by simp [fz,hel], ?_⟩
    simp [hmv]
   |false=>
    rcases ih en (i+1) (by grind) (fun j y t hj=>hen (j+1) y t (by grind)) with ⟨h1,h2,h3⟩|⟨j,y',t',h1,h2,h3,h4,h5⟩
    ·grind [dW,fz]
    ·refine .inr ⟨j+1,y',t',by grind,h2,by simp [dW,hel,h3],by simp [fz,hel,h4], ?_⟩
     grind
theorem Uk (h:Sim X c a.tmps w σ g D) {t:TypeId} {m key:PV U} {mv kv:Value} {k:(id:Nat)->(e:U.E)->List (U.El e×Bool)->U.El e->M U} (hm:Rep X w (c.N g D) g mv m) (hk:Rep X w (c.N g D) g kv key) (hr:(B6 V t m key k).Rel K σ fp r τ gp):
  ∃id e l x fp' kb,(k id e l x).Rel K σ fp' r τ gp/\mv= .map (some kb)/\g.μ id=some kb/\σ.b id=some (.map e l)/\V.isMt t e=true/\jR X w (c.N g D) g e x kv/\BoxOK X w (c.N g D) g (c.ο kb) kb (.map e l):=by
 unfold B6 at hr
 split at hr
 ·rename_i id cs
  simp only [M.Rel] at hr
  split at hr
  ·rename_i e l hb
   cases hE:V.isMt t e with
   |false=>rw [hE] at hr;exact hr.elim
   |true=>
    rw [hE] at hr
    simp only [cond_true] at hr
    split at hr
    ·rename_i x hx
     obtain ⟨kb,hkb,hbox⟩:=h.boxes _ _ hb
     obtain ⟨t1,t2,t3⟩:=X.toEl _ _ _ hx
     cases hm with
     |mp _ b hb2=>
      rw [hb2] at hkb
      injection hkb with hkb
      subst hkb
      cases hk with
      |agg vs _ hl hh=>
       refine ⟨id,e,l,x,_,b,hr,rfl,hb2,hb,hE,⟨vs,rfl,hl.trans t1,fun j p hp=> ?_⟩,hbox⟩
       have hj:j<cs.length:=by have:=(asn.1 hp).1;rw [X.len] at this;omega
       obtain ⟨q,hq,hless⟩:=t3 j _ (arN hj)
       rw [hp] at hq
       injection hq with hq
       subst hq
       exact (hh j _ (arN hj)).less hless
    ·exact hr.elim
  ·exact hr.elim
 ·exact hr.elim
theorem QX {e:U.E} {fs:Array Field} (hk:KeyT P (X.etid e) (X.esize e) fs) (u:Value) (en:List MapEntry) (w:World):(Instr.findKey (X.etid e) u en).run P w=(Instr.findAsking (X.etid e) u en 0).run P w:=by
 cases en with
 |nil=>simp [Instr.findKey,run_underlying hk.und,Instr.findNow,Instr.findAsking]
 |cons m en=>
  have:Instr.findNow (.struct fs) u (m::en) 0=none:=by
   rfl
  simp only [Instr.findKey,arV,run_underlying hk.und,arS,this]
theorem Nw {kb:Nat} {e:U.E} {l:List (U.El e×Bool)} {t:Array Value} (hb:BoxOK X w N g t kb (.map e l)): ∃en cl,w.heap[kb]? =some (.map en cl)/\en.toList.length=l.length/\
  ∀ (j:Nat) y t,l[j]? =some (y,t)-> ∃m,en.toList[j]? =some m/\m.val= .bool t/\jR X w N g e y m.key:=by
 obtain ⟨en,cl,h1,h2,h3⟩:=hb
 refine ⟨en,cl,h1,by omega,fun j y t hj=> ?_⟩
 obtain ⟨m,vs,e1,e2,e3,e4,e5⟩:=h3 j y t hj
 exact ⟨m,by grind,e2,vs,e3,e4,e5⟩
theorem ahh {t:TypeId} {m x:Operand} {ok:Bool} (hd:bq c.nt ⟨dst,.lookup t m x ok,ty,pos,after,gd⟩=true) (h:Sim X c a.tmps w σ g D) (hr:(bL V S ⟨dst,.lookup t m x ok,ty,pos,after,gd⟩).Rel K σ fp r τ gp)
  (ht:Then X c a r τ next Q):(⟨dst,.lookup t m x ok,ty,pos,after,gd⟩:Oper).wp P a w next Q:=by
 obtain ⟨p,fp1,hp,hr1⟩:=b9 h hr
 obtain ⟨q,fp2,hq,hr2⟩:=b9 h hr1
 obtain ⟨id,e,l,y,fp3,kb,hr3,hmv,hμ,hbx,hE,hkey,hbox⟩:=Uk h hp hq hr2
 obtain ⟨⟨vb,i,hu,hi,hz⟩,⟨fs,hT⟩,htot⟩:=NH X hE
 obtain ⟨en,cl,hblk,hlen,hent⟩:=Nw hbox
 obtain ⟨vs,hkv,hvs,_⟩:=hkey
 have hck:=QQ (P:=P) hT en.isEmpty 9998 vs hvs w
 have hzv:(zeroValue vb).run P w= .ok (.bool false) w:=by simp_all [zeroValue,typeInfo]
 have hrun0: ∀ {res:Option (Nat×Value)},(Instr.findAsking (X.etid e) (a.eval x) en.toList 0).run P w= .ok res w->(execOp a.eval ⟨dst,.lookup t m x ok,ty,pos,after,gd⟩).run P w=
   .ok (.value (match res with|some (_,v)=>if ok then .tuple #[v,.bool true] else v|none=>if ok then .tuple #[.bool false,.bool false] else .bool false)) w:=by
  intro res hres
  rw [<-QX hT] at hres
  simp only [execOp,Instr.lookup,arV,run_underlying hu,arS,hmv,G6 hblk,Sem.run_pure]
  rw [hkv] at hres ⊢
  rw [show (10000:Nat)=9998+2 from rfl,hck]
  simp only [arS,hres]
  cases res<;>simp_all
 rcases QW (w:=w) hT htot (b:=true) ⟨vs,hkv,hvs,‹_›⟩ l en.toList 0 hlen hent with ⟨h1,_,h3⟩|⟨j,y',t',h1,_,h2,_,h3⟩
 ·rw [h1] at hr3
  refine bN hd ht h (hrun0 h3) ?_ hr3
  cases ok with
  |true=>
   refine .tuple _ _ rfl fun j p hp=> ?_
   match j,hp with
   |0,hp=>simp at hp;subst hp;exact .bool _
   |1,hp=>simp at hp;subst hp;exact .bool _
  |false=>exact .bool _
 ·rw [h2] at hr3
  refine bN hd ht h (hrun0 h3) ?_ hr3
  cases ok with
  |true=>
   refine .tuple _ _ rfl fun j p hp=> ?_
   match j,hp with
   |0,hp=>simp at hp;subst hp;exact .bool _
   |1,hp=>simp at hp;subst hp;exact .bool _
  |false=>exact .bool _
theorem KD: ∀ {a0s bs:List (PV U)},PV.eqvI a0s bs=some true->a0s=bs:=by
 intro a0s
 induction a0s with
 |nil=>grind [PV.eqvI]
 |cons z a0s ih=>
  intro bs h
  obtain ⟨hlen,hh⟩:=ur h
  cases bs with
  |nil=>grind
  |cons z' bs=>
   obtain ⟨k,m1,m2,rfl,rfl⟩:=hh 0 z z' rfl rfl
   grind [PV.eqvI]
theorem aec {e:U.E} {x y:U.El e} {u v:Value} (hx:jR X w N g e x u) (hy:jR X w N g e y v) (he:PV.eqvI (V.cells e y) (V.cells e x)=some true):(Instr.keyThatStays v u).run P w= .ok u w:=by
 obtain ⟨xs,rfl,hxl,hxs⟩:=hx
 obtain ⟨ys,rfl,hyl,hys⟩:=hy
 have heq:=KD he
 obtain ⟨_,hints⟩:=ur he
 have hsame:Instr.sameBits (9999+1) (.agg ys) (.agg xs)=true:=by
  simp only [Instr.sameBits,anZ,ars]
  refine ⟨by grind,fun z hz=> ?_⟩
  obtain ⟨j,hj⟩:=List.mem_iff_getElem?.1 hz
  obtain ⟨a1,a2⟩:=z
  rw [List.getElem?_zip_eq_some] at hj
  obtain ⟨h1,h2⟩:=hj
  simp only [Array.getElem?_toList] at h1 h2
  have hlt:j<(V.cells e x).length:=by rw [X.len,<-hxl];grind
  have hc:=arN hlt
  have hc':(V.cells e y)[j]? =some (V.cells e x)[j]:=by grind
  obtain ⟨k,m1,m2,e1,e2⟩:=hints j _ _ hc' hc
  have r1:=hys j _ hc'
  have r2:=hxs j _ hc
  rw [e1] at r1 r2
  have q1:=c6 r1
  have q2:=c6 r2
  simp_all [Instr.sameBits]
 simp_all [Instr.keyThatStays]
theorem ahl {t:TypeId} {m x y:Operand} (h:Sim X c a.tmps w σ g D) (hr:(bL V S ⟨dst,.mapUpdate t m x y,ty,pos,after,gd⟩).Rel K σ fp r τ gp)
  (ht:Then X c a r τ next Q):(⟨dst,.mapUpdate t m x y,ty,pos,after,gd⟩:Oper).wp P a w next Q:=by
 cases hdst:dst with
 |some d=>subst hdst;exact hr.elim
 |none=>
 subst hdst
 have hdst:(none:Option Tmp)=none:=rfl
 obtain ⟨p,fp1,hp,hr1⟩:=b9 h hr
 obtain ⟨q,fp2,hq,hr2⟩:=b9 h hr1
 obtain ⟨z,fp3,hz,hr3⟩:=b9 h hr2
 split at hr3
 case h_2=>exact hr3.elim
 rename_i b
 have hzv:=kV hz
 obtain ⟨id,e,l,k,fp4,kb,hr4,hmv,hμ,hbx,hE,hkey,hbox⟩:=Uk h hp hq hr3
 obtain ⟨e1,e2,_⟩:=hr4
 subst e2
 obtain ⟨⟨vb,i,hu,hi,hzr⟩,⟨fs,hT⟩,htot⟩:=NH X hE
 obtain ⟨en,cl,hblk,hlen,hent⟩:=Nw hbox
 have hkey':=hkey
 obtain ⟨vs,hkv,hvs,hvr⟩:=hkey
 have hck:=QQ (P:=P) hT false 9998 vs hvs w
 have hlt:kb<w.heap.size:=(asV.1 hblk).1
 have hw: ∀ (o:Obj) b o',b<w.heap.size-> ¬ (c.N g D) b o'->({w with heap:=w.heap.setIfInBounds kb o}:World).cell? ⟨b,o',none⟩=w.cell? ⟨b,o',none⟩:=fun o b o' _ hn=>by
  have:kb≠b:=fun e=>hn (.inr (.inl ⟨id,e▸hμ⟩))
  grind [World.cell?]
 have fin: ∀ {en':Array MapEntry} {cl':Nat},(Instr.mapUpdate t (a.eval m) (a.eval x) (a.eval y)).run P w= .ok () {w with heap:=w.heap.setIfInBounds kb (.map en' cl')}->en'.size=(fz V e l k b).length->
   (∀ (j:Nat) y t,(fz V e l k b)[j]? =some (y,t)-> ∃m,en'[j]? =some m/\m.val= .bool t/\jR X w (c.N g D) g e y m.key)->(⟨none,.mapUpdate t m x y,ty,pos,after,gd⟩:Oper).wp P a w next Q:=by
  intro en' cl' hrun hsz hen
  have hs:=h.setBox hμ (w':={w with heap:=w.heap.setIfInBounds kb (.map en' cl')}) (b:= .map e (fz V e l k b)) rfl rfl rfl (by simp) (fun b' hb'=>by grind) ⟨en',cl',by simp_all,hsz,fun j y t hj=>by
   obtain ⟨m,f1,f2,vs',f3,f4,f5⟩:=hen j y t hj
   exact ⟨m,vs',f1,f2,f3,f4,fun q p hp=>(f5 q p hp).mono X (hw _) (fun _ _ _ h=>h) (Gh.le.refl g)⟩⟩
  exact wp_skip ht hdst hs (by simp [execOp,hrun]) e1
 have base: ∀ {res:Option (Nat×Value)},(Instr.findAsking (X.etid e) (a.eval x) en.toList 0).run P w= .ok res w->(Instr.mapUpdate t (a.eval m) (a.eval x) (a.eval y)).run P w=
   (match res with
    |some (i,_)=>(do let key<-Instr.keyThatStays (((en[i]?).map (·.key)).getD (a.eval x)) (a.eval x);setObj kb (.map (en.modify i fun e=>{e with key,val:=a.eval y}) cl):Sem Unit).run P w
    |none=>(setObj kb (.map (en.push {key:=a.eval x,val:=a.eval y,born:=cl}) (cl+1))).run P w):=by
  intro res hres
  rw [<-QX hT] at hres
  simp only [Instr.mapUpdate,arV,run_underlying hu,arS,hmv,G6 hblk]
  grind [arS,arV]
 rcases QW (w:=w) hT htot (b:=b) hkey' l en.toList 0 hlen hent with ⟨h1,h2,h3⟩|⟨j,y',t',h1,hEq,h2,h4,h3⟩
 ·refine fin ((base h3).trans (QZ _ hblk)) (by grind) fun j y1 t1 hj=> ?_
  rw [h2] at hj
  by_cases hjl:j<l.length
  ·grind
  ·rw [List.getElem?_append_right (by omega)] at hj
   have hj0:j-l.length=0:=by
    grind
   rw [hj0] at hj
   simp at hj
   obtain ⟨rfl,rfl⟩:=hj
   have hje:j=en.size:=by grind
   subst hje
   exact ⟨{key:=a.eval x,val:=a.eval y,born:=cl},by simp,hzv,hkey'⟩
 ·obtain ⟨m1,f1,f2,f3⟩:=hent j y' t' h1
  rw [asP] at h3
  have hm1:en[j]? =some m1:=by grind
  have hst:(Instr.keyThatStays (((en[j]?).map (·.key)).getD (a.eval x)) (a.eval x)).run P w= .ok (a.eval x) w:=by
   grind [aec,eS]
  refine fin ((base h3).trans ?_) (en':=en.modify j fun e=>{e with key:=a.eval x,val:=a.eval y}) (cl':=cl) (by grind) fun q y1 t1 hq=> ?_
  ·grind [arV,arS,QZ]
  ·rw [h4,List.getElem?_set] at hq
   rw [Array.getElem?_modify]
   by_cases hjq:j=q
   ·subst hjq
    rw [if_pos rfl] at hq ⊢
    split at hq
    case isFalse=>cases hq
    injection hq with hq
    injection hq with g1 g2
    subst g1;subst g2
    refine ⟨_,by rw [hm1];rfl,hzv, ?_⟩
    obtain ⟨bb,hbb⟩:=htot y' k
    unfold eS at hEq
    rw [hbb] at hEq
    simp only at hEq
    subst hEq
    refine ⟨vs,hkv,hvs,fun j p hp=>hvr j p ?_⟩
    grind [KD]
   grind
end
section
variable {U:Uni} {K:cj U} {R:Type} {C:Oracle U R}
theorem St.setR_self (σ:St U) (n:Nat) {v:PV U} (h:σ.r n=v):σ.eqv (σ.setR n v):=by
 intro k
 by_cases hk:(Loc.wr n).W k
 ·have hk:k= .r n:=hk
  subst hk;simp [St.at_,h]
 ·rw [(σ.setR_at n v).2 k hk]
theorem gx (hC:C.Tells K): ∀ (m:M U) {σ σ0:St U} {fp:List Loc} {κ:MR U->St U->List Loc->Option R} {x:R},m.cps C σ fp κ=some x->σ0.eqv σ->
  ∃r τ0 τ gp,m.Rel K σ0 fp r τ0 gp/\τ0.eqv τ/\κ r τ gp=some x:=by
 intro m
 induction m with
 |done=>intro σ σ0 fp κ x h he;exact ⟨_,_,_,_,⟨rfl,rfl,rfl⟩,he,h⟩
 |fail=>intro σ σ0 fp κ x h he;cases h
 |raise v=>intro σ σ0 fp κ x h he;exact ⟨_,_,_,_,⟨rfl,rfl,rfl⟩,he,h⟩
 |out o=>intro σ σ0 fp κ x h he;exact ⟨_,_,_,_,⟨rfl,rfl,rfl⟩,he,h⟩
 |getR n k ih=>
  intro σ σ0 fp κ x h he
  obtain ⟨r,τ0,τ,gp,hr,ht,hk⟩:=ih _ h he
  exact ⟨r,τ0,τ,gp,by simp only [M.Rel];rw [he.r n];exact hr,ht,hk⟩
 |setR n v m ih=>
  intro σ σ0 fp κ x h he
  exact ih h (he.setR n v)
 |getB n k ih=>
  intro σ σ0 fp κ x h he
  obtain ⟨r,τ0,τ,gp,hr,ht,hk⟩:=ih _ h he
  exact ⟨r,τ0,τ,gp,by simp only [M.Rel];rw [he.b n];exact hr,ht,hk⟩
 |setB n v m ih=>
  intro σ σ0 fp κ x h he
  exact ih h (he.setB n v)
 |getT n i k ih=>
  intro σ σ0 fp κ x h he
  obtain ⟨r,τ0,τ,gp,hr,ht,hk⟩:=ih _ h he
  exact ⟨r,τ0,τ,gp,by simp only [M.Rel];rw [he.b n];exact hr,ht,hk⟩
 |getH n i k ih=>
  intro σ σ0 fp κ x h he
  obtain ⟨r,τ0,τ,gp,hr,ht,hk⟩:=ih _ h he
  exact ⟨r,τ0,τ,gp,by simp only [M.Rel];rw [he.b n];exact hr,ht,hk⟩
 |setH n i cs m ih=>
  intro σ σ0 fp κ x h he
  simp only [M.cps] at h
  split at h
  ·rename_i σ1 hs
   obtain ⟨σ2,h2,he2⟩:=he.setH hs
   obtain ⟨r,τ0,τ,gp,hr,ht,hk⟩:=ih h he2
   exact ⟨r,τ0,τ,gp,⟨σ2,h2,hr⟩,ht,hk⟩
  ·cases h
 |getO n k ih=>
  intro σ σ0 fp κ x h he
  obtain ⟨r,τ0,τ,gp,hr,ht,hk⟩:=ih _ h he
  exact ⟨r,τ0,τ,gp,by simp only [M.Rel];rw [he.o n];exact hr,ht,hk⟩
 |setO n v m ih=>
  intro σ σ0 fp κ x h he
  exact ih h (he.setO n v)
 |getU n k ih=>
  intro σ σ0 fp κ x h he
  obtain ⟨r,τ0,τ,gp,hr,ht,hk⟩:=ih _ h he
  exact ⟨r,τ0,τ,gp,by simp only [M.Rel];rw [he.u n];exact hr,ht,hk⟩
 |setU n v m ih=>
  intro σ σ0 fp κ x h he
  exact ih h (he.setU n v)
 |frz n m ih=>
  intro σ σ0 fp κ x h he
  exact ih h (he.setU n .read)
 |ask o k ih=>
  intro σ σ0 fp κ x h he
  cases o with
  |none=>cases h
  |some y=>
   obtain ⟨r,τ0,τ,gp,hr,ht,hk⟩:=ih y h he
   exact ⟨r,τ0,τ,gp,⟨y,rfl,hr⟩,ht,hk⟩
 |case j m1 m2 m3 i1 i2 i3=>
  intro σ σ0 fp κ x h he
  simp only [M.cps] at h
  split at h
  ·rename_i b hb
   cases b with
   |true=>
    obtain ⟨r,τ0,τ,gp,hr,ht,hk⟩:=i1 (σ0:=σ0) h (he.trans (St.setR_self σ j hb))
    exact ⟨r,τ0,τ,gp,.inl ⟨(he.r j).trans hb,hr⟩,ht,hk⟩
   |false=>
    obtain ⟨r,τ0,τ,gp,hr,ht,hk⟩:=i2 (σ0:=σ0) h (he.trans (St.setR_self σ j hb))
    exact ⟨r,τ0,τ,gp,.inr (.inl ⟨(he.r j).trans hb,hr⟩),ht,hk⟩
  ·rename_i hb
   obtain ⟨r,τ0,τ,gp,hr,ht,hk⟩:=i3 h he
   exact ⟨r,τ0,τ,gp,.inr (.inr ⟨(he.r j).trans hb,hr⟩),ht,hk⟩
  simp_all
 |call f a bs k ih=>
  intro σ σ0 fp κ x h he
  obtain ⟨out,ho,hk⟩:=hC _ _ _ _ _ h
  obtain ⟨r,τ0,τ,gp,hr,ht,hk'⟩:=ih out hk he
  exact ⟨r,τ0,τ,gp,⟨out,ho,hr⟩,ht,hk'⟩
variable (V:Env U) (S:Side U) (K) (ann:Nat->Option Ann)
def mW (all:List Oper):List Oper->St U->List (List Loc)->Ex U->St U->Prop
 |[],σ,fps,e,σ'=>fps=[]/\e= .normal/\σ'=σ
 |o::r,σ,fps,e,σ'=>
  (∃σ1 f fps',(jv V S o (gJ all)).Rel K σ [] .done σ1 f/\mW all r σ1 fps' e σ'/\fps=f::fps')\/
  (∃v f,(jv V S o (gJ all)).Rel K σ [] (.raise v) σ' f/\e= .panic v/\fps=[f])
theorem QK (hC:C.Tells K) (all:List Oper): ∀ (ops:List Oper) {σ σ0:St U} {fps0:List (List Loc)} {κ:Ex U->St U->List (List Loc)->Option R} {x:R},rD V S C all ops fps0 σ κ=some x->σ0.eqv σ->
  ∃e fps τ0 τ,mW K V S all ops σ0 fps e τ0/\τ0.eqv τ/\κ e τ (fps0++fps)=some x:=by
 intro ops
 induction ops with
 |nil=>intro σ σ0 fps0 κ x h he;exact ⟨_,[],_,_,⟨rfl,rfl,rfl⟩,he,by grind [rD]⟩
 |cons o r ih=>
  intro σ σ0 fps0 κ x h he
  simp only [rD] at h
  obtain ⟨q,τ0,τ,gp,hr,ht,hk⟩:=gx hC _ h he
  cases q with
  |done=>
   obtain ⟨e,fps,ρ0,ρ,h1,h2,h3⟩:=ih hk ht
   exact ⟨e,gp::fps,ρ0,ρ,.inl ⟨τ0,gp,fps,hr,h1,rfl⟩,h2,by grind⟩
  |raise v=>exact ⟨.panic v,[gp],τ0,τ,.inr ⟨v,gp,hr,rfl,rfl⟩,ht,hk⟩
  |out o=>cases hk
inductive Big:Option Ann->Code->St U->Ex U->St U->Prop
 |skip (σ):Big none .skip σ .normal σ
 |label (l σ):Big none (.label l) σ .normal σ
 |region (id ops draw σ e σ' fps) (hd:ops.toList.all (bq S.nt)=true) (h:mW K V S ops.toList ops.toList σ fps e σ')
   (hf:draw=true->e= .normal/\ik 0 ops.toList=true/\lP (dE ops.toList []) 0 [] fps=true):Big none (.region id ops draw) σ e σ'
 |regionP (id ops σ v σ' σ'' τ fps) (hd:ops.toList.all (bq S.nt)=true) (h:mW K V S ops.toList ops.toList σ fps (.panic v) σ') (he:σ'.eqv σ'') (hv:v.isErr=true) (hf:vR V S ops.toList σ σ'' fps=true)
  (hc:dS (iN σ σ'') σ''=some τ):Big none (.region id ops true) σ (.panic v) τ
 |seqN (a b σ σ1 e σ') (h1:Big none a σ .normal σ1) (h2:Big none b σ1 e σ'):Big none (.seq a b) σ e σ'
 |seqJ (a b A σ σ1 τ e σ') (h1:Big none a σ .normal σ1) (hA:ann (1000000+ji b)=some A) (hc:dS A σ1=some τ) (h2:Big none b τ e σ'):Big none (.seq a b) σ e σ'
 |seqE (a b σ e σ') (h1:Big none a σ e σ') (he:e≠ .normal):Big none (.seq a b) σ e σ'
 |cond (j a b σ t e σ') (hj:σ.r j= .bool t) (h:Big none (bif t then a else b) σ e σ'):Big none (.cond (.tmp j) a b) σ e σ'
 |blockIn (id a σ σ') (h:Big none a σ (.exit id) σ'):Big none (.block id a) σ .normal σ'
 |blockOut (id a σ e σ') (h:Big none a σ e σ') (he:e≠ .exit id):Big none (.block id a) σ e σ'
 |loop (a A σ τ e σ') (hA:ann (ji a)=some A) (hc:dS A σ=some τ) (h:Big (some A) a τ e σ'):Big none (.loop a) σ e σ'
 |scope (a σ e σ') (h:Big none a σ e σ'):Big none (.scope a) σ e σ'
 |exit (id σ):Big none (.exit id) σ (.exit id) σ
 |ret (σ):Big none .ret σ .ret σ
 |round (a A σ σ1 τ e σ') (h:Big none a σ .normal σ1) (hc:dS A σ1=some τ) (h':Big (some A) a τ e σ'):Big (some A) a σ e σ'
 |leave (a A σ e σ') (h:Big none a σ e σ') (he:e≠ .normal):Big (some A) a σ e σ'
 |pre (o c σ0 σ e σ') (he:σ0.eqv σ) (h:Big o c σ e σ'):Big o c σ0 e σ'
 |post (o c σ e σ1 σ') (he:σ1.eqv σ') (h:Big o c σ e σ1):Big o c σ e σ'
theorem Bv (hC:C.Tells K) (fuel:Nat): ∀ (c:Code) {σ:St U} {κ:Ex U->St U->Option R} {x:R},run V S C ann fuel c σ κ=some x-> ∃e τ,Big K V S ann none c σ e τ/\κ e τ=some x:=by
 intro c
 induction c with
 |skip=>intro σ κ x h;exact ⟨_,_,.skip σ,h⟩
 |label l=>intro σ κ x h;exact ⟨_,_,.label l σ,h⟩
 |region id ops draw=>
  intro σ κ x h
  simp only [run] at h
  cases hd:ops.toList.all (bq S.nt) with
  |false=>grind
  |true=>
  rw [hd] at h
  simp only [cond_true] at h
  obtain ⟨e,fps,τ0,τ,hr,ht,hk⟩:=QK K V S hC _ _ h (St.eqv.refl σ)
  cases e with
  |normal=>
   simp only [arU] at hk
   cases hb:(!draw||(ik 0 ops.toList&&lP (dE ops.toList []) 0 [] fps)) with
   |false=>grind
   |true=>
    rw [hb] at hk
    refine ⟨_,_,.post _ _ _ _ _ _ ht (.region id ops draw σ _ τ0 fps hd hr fun hdr=> ?_),hk⟩
    grind
  |exit id=>cases draw<;>simp at hk;exact ⟨_,_,.post _ _ _ _ _ _ ht (.region _ ops _ σ _ τ0 fps hd hr (by simp)),hk⟩
  |ret=>cases draw<;>simp at hk;exact ⟨_,_,.post _ _ _ _ _ _ ht (.region _ ops _ σ _ τ0 fps hd hr (by simp)),hk⟩
  |panic v=>
   cases draw with
   |false=>simp at hk;exact ⟨_,_,.post _ _ _ _ _ _ ht (.region _ ops _ σ _ τ0 fps hd hr (by simp)),hk⟩
   |true=>
    simp only [arU,cond_true] at hk
    cases hf:(v.isErr&&vR V S ops.toList σ τ fps) with
    |false=>grind
    |true=>
     rw [hf] at hk
     simp only [cond_true] at hk
     simp only [anZ] at hf
     split at hk
     ·rename_i τ2 hc
      exact ⟨_,_,.regionP _ ops σ v τ0 τ τ2 fps hd hr ht hf.1 hf.2 hc,hk⟩
     grind
 |seq a b ia ib=>
  intro σ κ x h
  simp only [run] at h
  obtain ⟨e,τ,h1,h2⟩:=ia h
  cases e with
  |normal=>
   simp only at h2
   split at h2
   ·rename_i A hA
    split at h2
    ·rename_i τ1 hc
     have h2:run V S C ann fuel b τ1 κ=some x:=by
      cases fuel with
      |zero=>cases h2
      |succ n=>exact h2
     obtain ⟨e',τ',h3,h4⟩:=ib h2
     exact ⟨e',τ',.seqJ _ _ _ _ _ _ _ _ h1 hA hc h3,h4⟩
    grind
   ·obtain ⟨e',τ',h3,h4⟩:=ib h2;exact ⟨e',τ',.seqN _ _ _ _ _ _ h1 h3,h4⟩
  |exit id=>exact ⟨_,_,.seqE _ _ _ _ _ h1 (by simp),h2⟩
  |ret=>exact ⟨_,_,.seqE _ _ _ _ _ h1 (by simp),h2⟩
  |panic v=>exact ⟨_,_,.seqE _ _ _ _ _ h1 (by simp),h2⟩
 |cond cc a b ia ib=>
  intro σ κ x h
  simp only [run] at h
  split at h
  ·rename_i j
   split at h
   ·rename_i t ht
    cases t with
    |true=>
     obtain ⟨e,τ,h1,h2⟩:=ia h
     exact ⟨e,τ,.pre _ _ _ _ _ _ (St.setR_self σ j ht) (.cond j a b _ true e τ (by simp) h1),h2⟩
    |false=>
     obtain ⟨e,τ,h1,h2⟩:=ib h
     exact ⟨e,τ,.pre _ _ _ _ _ _ (St.setR_self σ j ht) (.cond j a b _ false e τ (by simp) h1),h2⟩
   simp_all
  simp_all
 |block id a ia=>
  intro σ κ x h
  simp only [run] at h
  obtain ⟨e,τ,h1,h2⟩:=ia h
  cases e with
  |exit j=>
   simp only at h2
   cases hj:aoy j id with
   |true=>
    rw [hj] at h2
    have:j=id:=by simp_all
    subst this
    exact ⟨_,_,.blockIn _ _ _ _ h1,h2⟩
   |false=>
    rw [hj] at h2
    exact ⟨_,_,.blockOut _ _ _ _ _ h1 (fun e=>by simp_all),h2⟩
  |normal=>exact ⟨_,_,.blockOut _ _ _ _ _ h1 (by simp),h2⟩
  |ret=>exact ⟨_,_,.blockOut _ _ _ _ _ h1 (by simp),h2⟩
  |panic v=>exact ⟨_,_,.blockOut _ _ _ _ _ h1 (by simp),h2⟩
 |loop a ia=>
  intro σ κ x h
  simp only [run] at h
  split at h
  ·rename_i A hA
   split at h
   ·rename_i τ hc
    have key: ∀ (n:Nat) (τ:St U) (κ:Ex U->St U->Option R) (x:R),uR (dS A) (fun σ κ=>run V S C ann fuel a σ κ) n τ κ=some x-> ∃e ρ,Big K V S ann (some A) a τ e ρ/\κ e ρ=some x:=by
     intro n
     induction n with
     |zero=>intro τ κ x h;cases h
     |succ n ih=>
      intro τ κ x h
      simp only [uR] at h
      obtain ⟨e,ρ,h1,h2⟩:=ia h
      cases e with
      |normal=>
       simp only [back] at h2
       split at h2
       ·rename_i τ' hc'
        obtain ⟨e',ρ',h3,h4⟩:=ih τ' κ x h2
        exact ⟨e',ρ',.round _ _ _ _ _ _ _ h1 hc' h3,h4⟩
       grind
      |exit id=>exact ⟨_,_,.leave _ _ _ _ _ h1 (by simp),h2⟩
      |ret=>exact ⟨_,_,.leave _ _ _ _ _ h1 (by simp),h2⟩
      |panic v=>exact ⟨_,_,.leave _ _ _ _ _ h1 (by simp),h2⟩
    obtain ⟨e,ρ,h1,h2⟩:=key _ _ _ _ h
    exact ⟨e,ρ,.loop _ _ _ _ _ _ hA hc h1,h2⟩
   simp_all
  simp_all
 |scope a ia=>
  intro σ κ x h
  simp only [run] at h
  obtain ⟨e,τ,h1,h2⟩:=ia h
  exact ⟨_,_,.scope _ _ _ _ h1,h2⟩
 |exit id=>intro σ κ x h;exact ⟨_,_,.exit id σ,h⟩
 |ret=>intro σ κ x h;exact ⟨_,_,.ret σ,h⟩
 |_=>intro σ κ x h;cases h
end
section
variable {U:Uni} {V:Env U} {P:Program} (X:Link V P) (K:cj U) (S:Side U) (c:Ctx)
def mV:Prop:= ∀ (o:Oper) (a:Act) (w:World) (σ:St U) (g:Gh U) (D:Nat->Option Nat) (r:MR U) (τ:St U) (fp gp:List Loc) (next:Act->World->Prop) (Q:Exit->Act->World->Prop),
 bq c.nt o=true->Sim X c a.tmps w σ g D->(bL V S o).Rel K σ fp r τ gp->Then X c a r τ next Q->o.wp P a w next Q
def Lands (ds:List Deferred) (e:Ex U) (σ':St U) (Q:Exit->Act->World->Prop):Prop:=
 ∀a' w' g' D',a'.defers=ds->Sim X c a'.tmps w' σ' g' D'->match e with
  | .normal=>Q .normal a' w'
  | .exit id=>Q (.exit id) a' w'
  | .ret=>Q .ret a' w'
  | .panic v=> ∀val,Rep X w' (c.N g' D') g' val v->Q (.panic [{v:=val,recovered:=false}]) a' w'
variable {X K S c} {a:Act} {w:World} {σ:St U} {g:Gh U} {D:Nat->Option Nat} {Q:Exit->Act->World->Prop} {ops:Array Oper}
theorem Uy {tm:Array Value} {j d:Nat} (hd:gJ ops.toList j=some d) {b:Bool} (h:tm.getD d undef= .bool b):yielded ops tm j=some b:=by
 have ho:(ops[j]?).bind (·.dst)=some d:=by
  grind [gJ]
 have ht:tm[d]? =some (.bool b):=by
  rw [as1] at h
  cases h2:tm[d]? with
  |none=>rw [h2] at h;cases h
  |some v=>grind
 simp [yielded,ho,ht]
theorem alz {tm:Array Value} {j d:Nat} (hd:gJ ops.toList j=some d) (h:tm.getD d undef=undef):yielded ops tm j=none:=by
 have ho:(ops[j]?).bind (·.dst)=some d:=by
  grind [gJ]
 unfold yielded
 rw [ho]
 simp only [an4]
 rw [as1] at h
 cases h2:tm[d]? with
 |none=>rfl
 |some v=>rw [h2] at h;simp only [Option.getD_some] at h;subst h;rfl
theorem vv (hS:mV X K S c) {o:Oper} {r:MR U} {τ:St U} {fp:List Loc} {next:Act->World->Prop} (hd:bq c.nt o=true) (h:Sim X c a.tmps w σ g D) (hr:(jv V S o (gJ ops.toList)).Rel K σ [] r τ fp)
  (ht:Then X c a r τ next Q):if Region.wanted o (yielded ops a.tmps) then o.wp P a w next Q\/(o.asks P a w/\LetsOut Q) else next (a.put o.dst undef) w:=by
 have skip: ∀ {fp' gp'},(put o.dst (.tuple []):M U).Rel K σ fp' r τ gp'->next (a.put o.dst undef) w:=by
  intro fp' gp' hp
  obtain ⟨h1,h2⟩:=rl hp
  subst h2
  obtain ⟨h3,h4⟩:=h.putAct hd (v:=undef) (p:= .tuple []) (.tuple #[] [] rfl (by simp))
  exact ht.done h1 _ _ _ _ h4 h3
 have go: ∀ {fp' gp'},(bL V S o).Rel K σ fp' r τ gp'->o.wp P a w next Q:=fun h'=>hS _ _ _ _ _ _ _ _ _ _ _ _ hd h h' ht
 unfold jv at hr
 cases hg:o.guard with
 |none=>grind [Region.wanted]
 |some jw=>
  obtain ⟨j,want⟩:=jw
  rw [hg] at hr
  simp only at hr
  split at hr
  ·exact hr.elim
  ·rename_i d hj
   have hR:=h.regs d
   rcases hr with ⟨hb,hr⟩|⟨hb,hr⟩|⟨hb,hr⟩
   ·rw [hb] at hR
    have hy:=Uy hj (kV hR)
    grind [Region.wanted]
   ·rw [hb] at hR
    have hy:=Uy hj (kV hR)
    grind [Region.wanted]
   ·rw [hb] at hR
    have hu:a.tmps.getD d undef=undef:=by
     generalize a.tmps.getD d undef=v at hR
     cases hR with
     |tuple vs _ hl _=>
      have:vs= #[]:=by grind
      subst this;rfl
    grind [alz,Region.wanted]
theorem Ur (hS:mV X K S c) {e:Ex U} {σ':St U}: ∀ (l:List Oper) (i:Nat) (a:Act) (w:World) (σ:St U) (g:Gh U) (D:Nat->Option Nat) (fps:List (List Loc)),ops.toList.drop i=l->l.all (bq c.nt)=true->Sim X c a.tmps w σ g D->
  mW K V S ops.toList l σ fps e σ'->Lands X c a.defers e σ' Q->wpOps P ops Q (List.range' i l.length) a w:=by
 intro l
 induction l with
 |nil=>
  intro i a w σ g D fps _ _ h hr hl
  obtain ⟨_,h2,h3⟩:=hr
  subst h2;subst h3
  simp only [List.length_nil,List.range'_zero,wpOps]
  exact hl a w g D rfl h
 |cons o l ih=>
  intro i a w σ g D fps hdrop hall h hr hl
  have hi:ops[i]? =some o:=by
   have:=congrArg (·[0]?) hdrop
   grind
  have hdrop':ops.toList.drop (i+1)=l:=by
   rw [<-List.drop_drop,hdrop];rfl
  simp only [List.all_cons,anZ] at hall
  simp only [aq5,List.range'_succ,wpOps,hi]
  rcases hr with ⟨σ1,f,fps',h1,h2,_⟩|⟨v,f,h1,h2,_⟩
  ·exact vv hS hall.1 h h1 ⟨fun _ a' w' g' D' hdf hs=>ih (i+1) a' w' σ1 g' D' fps' hdrop' hall.2 hs h2 (by grind),fun v hv=>by cases hv⟩
  ·subst h2
   refine vv hS hall.1 h h1 ⟨(fun hv=>by cases hv),fun v' hv w' g' D' val hrep hs=> ?_⟩
   injection hv with hv
   subst hv
   exact hl a w' g' D' rfl hs val hrep
def SeqRel (V:Env U) (K:cj U) (S:Side U) (ops:Array Oper):List (Nat×List Loc)->St U->St U->Prop
 |[],σ,σ'=>σ.eqv σ'
 |(i,f)::r,σ,σ'=> ∃o σ1,ops[i]? =some o/\(jv V S o (gJ ops.toList)).Rel K σ [] .done σ1 f/\SeqRel V K S ops r σ1 σ'
theorem SeqRel.pre {l:List (Nat×List Loc)}: ∀ {σ0 σ σ':St U},SeqRel V K S ops l σ σ'->σ.eqv σ0->SeqRel V K S ops l σ0 σ':=by
 induction l with
 |nil=>intro σ0 σ σ' h he;exact he.symm.trans h
 |cons x l ih=>
  obtain ⟨i,f⟩:=x
  intro σ0 σ σ' h he
  obtain ⟨o,σ1,ho,h1,h2⟩:=h
  obtain ⟨τ,h3,h4⟩:=h1.eqv K he
  exact ⟨o,τ,ho,h3,ih h2 h4⟩
theorem SeqRel.front {i:Nat} {f:List Loc} {post:List (Nat×List Loc)}: ∀ (pre:List (Nat×List Loc)) {σ σ':St U},SeqRel V K S ops (pre++(i,f)::post) σ σ'->(∀x∈pre,dD x.2 f=true)->
  SeqRel V K S ops ((i,f)::(pre++post)) σ σ':=by
 intro pre
 induction pre with
 |nil=>simp
 |cons x pre ih=>
  obtain ⟨j,g⟩:=x
  intro σ σ' h ha
  obtain ⟨o,σ1,ho,h1,h2⟩:=h
  obtain ⟨o',σ2,ho',h3,h4⟩:=ih h2 (fun x hx=>ha x (by simp [hx]))
  obtain ⟨τ1,τ2,h5,h6,h7⟩:=Rel.swap K h1 h3 (ha (j,g) (by simp))
  exact ⟨o',τ1,ho',h5,o,τ2,ho,h6,h4.pre h7⟩
theorem ZK: ∀ (l:List Oper) (acc:List Nat),∃t,dE l acc=acc++t/\t.length=l.length:=by
 intro l
 induction l with
 |nil=>simp_all [dE]
 |cons o l ih=>
  intro acc
  obtain ⟨t,h1,h2⟩:=ih (acc++[n_ acc o])
  grind [dE]
theorem ZL: ∀ (l:List Oper) (acc:List Nat) (k:Nat) (o:Oper),l[k]? =some o->(dE l acc)[acc.length+k]? =some (n_ ((dE l acc).take (acc.length+k)) o):=by
 intro l
 induction l with
 |nil=>simp
 |cons o' l ih=>
  intro acc k o h
  cases k with
  |zero=>
   simp at h;subst h
   obtain ⟨t,h1,h2⟩:=ZK l (acc++[n_ acc o'])
   grind [dE]
  |succ k=>
   grind [dE]
theorem ac1 (acc:List Nat) (j:Nat): ∀ (es:List Edge) (s:Nat),(es.foldl (fun s e=>bif Region.binds .any e then s|||2^e.on|||acc.getD e.on 0 else s) s).testBit j=true->
  s.testBit j=true\/ ∃e∈es,Region.binds .any e=true/\(e.on=j\/(acc.getD e.on 0).testBit j=true):=by
 intro es
 induction es<;>grind
theorem Eu: ∀ (l:List Oper) (n k:Nat) (o:Oper),ik n l=true->l[k]? =some o-> ∀e∈o.after.toList,Region.binds .any e=true->e.on<n+k:=by
 intro l
 induction l with
 |nil=>simp
 |cons o' l ih=>
  intro n k o hf h e he hb
  simp only [ik,anZ,ars] at hf
  cases k with
  |zero=>
   simp at h;subst h
   have:=hf.1 e he
   simp_all
  |succ k=>
   grind
def Cb (ops:Array Oper) (L:Nat->Prop):Prop:= ∀ (k:Nat) (o:Oper),L k->ops[k]? =some o-> ∀e∈o.after.toList,Region.binds .any e=true->L e.on
theorem Nz (hf:ik 0 ops.toList=true) {L:Nat->Prop} (hL:Cb ops L) {j:Nat}: ∀ (n k:Nat),k<n-> ∀o,ops[k]? =some o->(∀e∈o.after.toList,Region.binds .any e=true->L e.on)->
  ((dE ops.toList []).getD k 0).testBit j=true->L j:=by
 intro n
 induction n with
 |zero=>simp
 |succ n ih=>
  intro k hk o ho hdir hb
  have hm:=ZL ops.toList [] k o (by grind)
  simp only [List.length_nil,asP] at hm
  rw [List.getD_eq_getElem?_getD,hm,Option.getD_some] at hb
  unfold n_ at hb
  rcases ac1 _ _ _ _ hb with h|⟨e,he,hbe,h⟩
  ·simp at h
  ·have hlt:=Eu _ 0 k o hf (by grind) e he hbe
   rw [asP] at hlt
   rcases h with h|h
   ·grind
   ·have hLe:=hdir e he hbe
    rw [List.getD_eq_getElem?_getD,List.getElem?_take_of_lt hlt,<-List.getD_eq_getElem?_getD] at h
    have hon:e.on<ops.size:=by grind
    exact ih e.on (by omega) _ (Array.getElem?_eq_getElem hon) (fun e' he' hb'=>hL _ _ hLe (Array.getElem?_eq_getElem hon) e' he' hb') h
theorem aj6: ∀ (l:List Oper) (i:Nat) (σ σ':St U) (fps:List (List Loc)),ops.toList.drop i=l->mW K V S ops.toList l σ fps .normal σ'->fps.length=l.length/\SeqRel V K S ops ((List.range' i l.length).zip fps) σ σ':=by
 intro l
 induction l with
 |nil=>
  intro i σ σ' fps _ h
  obtain ⟨h1,_,h3⟩:=h
  subst h1;subst h3
  exact ⟨rfl,St.eqv.refl _⟩
 |cons o l ih=>
  intro i σ σ' fps hd h
  have hi:ops[i]? =some o:=by
   have:=congrArg (·[0]?) hd
   grind
  have hd':ops.toList.drop (i+1)=l:=by rw [<-List.drop_drop,hd];rfl
  rcases h with ⟨σ1,f,fps',h1,h2,h3⟩|⟨v,f,_,h2,_⟩
  ·subst h3
   obtain ⟨h4,h5⟩:=ih (i+1) σ1 σ' fps' hd' h2
   exact ⟨by simp [h4],o,σ1,hi,h1,h5⟩
  grind
theorem KJ (before:List Nat): ∀ (fs:List (List Loc)) (j:Nat) (done:List (List Loc)),j=done.length->lP before j done fs=true-> ∀ (p q:Nat) (f g:List Loc),p<q->(done++fs)[p]? =some f->(done++fs)[q]? =some g->done.length<=q->
  (before.getD q 0).testBit p=true\/dD f g=true:=by
 intro fs
 induction fs with
 |nil=>
  grind
 |cons h fs ih=>
  intro j done hj hf p q f g hpq hp hq hle
  simp only [lP,anZ,ars] at hf
  by_cases hqd:q=done.length
  ·subst hqd
   rw [List.getElem?_append_left hpq] at hp
   rw [List.getElem?_append_right (aru _)] at hq
   simp at hq
   subst hq
   have hmem:(f,p)∈done.zip (cK 0 done.length):=by
    have hn: ∀ (n s k:Nat),k<n->(cK s n)[k]? =some (s+k):=by
     intro n
     induction n with
     |zero=>simp
     |succ n ihn=>
      intro s k hk
      cases k<;>grind [cK]
    have hpl:p<done.length:=hpq
    have h1:=hn done.length 0 p hpl
    rw [asP] at h1
    exact as2 (i:=p) (by grind [List.getElem?_zip_eq_some])
   grind
  ·have:=ih (j+1) (done++[h]) (by simp [hj]) hf.2 p q f g hpq (by simp_all) (by simp_all) (by simp;omega)
   simp_all
structure Left (ops:Array Oper) (fps:List (List Loc)) (listed:Array Bool) (rem:List (Nat×List Loc)):Prop where
 size:listed.size=ops.size
 fst:rem.map (·.1)=(ar3 ops.size).filter fun i=> !listed.getD i true
 fp: ∀x∈rem,fps[x.1]? =some x.2
 closed:Cb ops fun i=>listed.getD i false=true
theorem acU {n i:Nat} {listed:Array Bool} (hi:i<listed.size): ∀ (l:List Nat),(l.filter fun j=> !(listed.setIfInBounds i true).getD j true)=(l.filter fun j=> !listed.getD j true).filter (fun j=>j !=i):=by
 intro l
 rw [List.filter_filter]
 congr 1
 funext j
 by_cases hj:i=j
 ·simp_all
 ·have:(listed.setIfInBounds i true).getD j true=listed.getD j true:=by
   simp_all
  grind
theorem alp (hS:mV X K S c) (hall:ops.toList.all (bq c.nt)=true) {fps:List (List Loc)} (hfor:ik 0 ops.toList=true) (hfree:lP (dE ops.toList []) 0 [] fps=true) {σ':St U} {ds:List Deferred} (hl:Lands X c ds .normal σ' Q):
  ∀ (fuel:Nat) (listed:Array Bool) (rem:List (Nat×List Loc)) (a:Act) (w:World) (σ:St U) (g:Gh U) (D:Nat->Option Nat),rem.length=fuel->Left ops fps listed rem->a.defers=ds->Sim X c a.tmps w σ g D->SeqRel V K S ops rem σ σ'->
  wpAny P .any ops Q fuel listed a w:=by
 intro fuel
 have sub: ∀ (listed:Array Bool) (rem:List (Nat×List Loc)),Left ops fps listed rem-> ∀i,i∈Region.ready .any ops listed-> ∃f,(i,f)∈rem/\ ∃o,ops[i]? =some o/\ ∀e∈o.after.toList,Region.binds .any e=true->listed.getD e.on false=true:=by
  intro listed rem hL i hi
  simp only [Region.ready,List.mem_filter,List.mem_range,anZ] at hi
  have hm:i∈rem.map (·.1):=by rw [hL.fst];grind
  grind [Array.all_eq_true_iff_forall_mem]
 induction fuel with
 |zero=>
  intro listed rem a w σ g D hlen hL hds h hseq
  have:rem=[]:=List.eq_nil_of_length_eq_zero hlen
  subst this
  refine ⟨?_,hl a w g D hds (h.eqv hseq)⟩
  cases hr:Region.ready .any ops listed with
  |nil=>rfl
  |cons i r=>
   obtain ⟨f,hf,_⟩:=sub listed [] hL i (by grind)
   cases hf
 |succ fuel ih=>
  intro listed rem a w σ g D hlen hL hds h hseq
  refine ⟨fun hr=> ?_,fun i hi=> ?_⟩
  ·
   exfalso
   cases rem with
   |nil=>grind
   |cons x rest=>
    obtain ⟨i,f⟩:=x
    have hm:i∈(ar3 ops.size).filter fun i=> !listed.getD i true:=by rw [<-hL.fst];simp
    simp only [List.mem_filter,List.mem_range] at hm
    have hmin: ∀j,j<i->listed.getD j false=true:=by
     intro j hj
     have hjn:j<ops.size:=by omega
     cases hlj:listed.getD j true with
     |true=>
      grind
     |false=>
      exfalso
      have hjm:j∈(ar3 ops.size).filter fun i=> !listed.getD i true:=List.mem_filter.2 ⟨List.mem_range.2 hjn,by grind⟩
      have hsorted:((ar3 ops.size).filter fun i=> !listed.getD i true).Pairwise (· < ·):=(List.pairwise_lt_range).filter _
      rw [<-hL.fst] at hjm hsorted
      grind [List.pairwise_cons]
    have hin:i∈Region.ready .any ops listed:=by
     simp only [Region.ready,List.mem_filter,List.mem_range,anZ]
     refine ⟨hm.1,hm.2, ?_⟩
     rw [Array.getElem?_eq_getElem hm.1]
     simp only [Option.map_some,Option.getD_some]
     refine Array.all_eq_true_iff_forall_mem.2 fun e he=> ?_
     cases hb:Region.binds .any e with
     |false=>rfl
     |true=>
      have:=Eu ops.toList 0 i _ hfor (by simp) e (Array.mem_toList_iff.2 he) hb
      grind
    grind
  ·obtain ⟨f,hf,o,ho,hdir⟩:=sub listed rem hL i hi
   obtain ⟨pre,post,hpp⟩:=List.append_of_mem hf
   subst hpp
   have hsorted:((ar3 ops.size).filter fun i=> !listed.getD i true).Pairwise (· < ·):=(List.pairwise_lt_range).filter _
   rw [<-hL.fst] at hsorted
   have hpre: ∀x∈pre,dD x.2 f=true:=by
    intro x hx
    have hlt:x.1<i:=by
     grind
    have h1:=hL.fp x (by simp [hx])
    have h2:=hL.fp (i,f) (by simp)
    rcases KJ _ fps 0 [] rfl hfree x.1 i x.2 f hlt (by grind) (by grind) (by simp) with hb|hb
    ·exfalso
     have hin:=Nz hfor hL.closed (i+1) i (Nat.lt_succ_self i) o ho hdir hb
     have hmem:x.1∈(ar3 ops.size).filter fun i=> !listed.getD i true:=by rw [<-hL.fst];grind
     grind
    omega
   obtain ⟨o',σ1,ho',h1,h2⟩:=hseq.front pre hpre
   rw [ho] at ho'
   injection ho' with ho'
   subst ho'
   have hi':i<listed.size:=by rw [hL.size];grind
   have hdo:bq c.nt o=true:=ars.1 hall o (Array.mem_toList_iff.2 (Array.mem_of_getElem? ho))
   unfold wpOp
   rw [ho]
   refine vv hS hdo h h1 ⟨fun _ a' w' g' D' hdf hs=>ih (listed.setIfInBounds i true) (pre++post) a' w' σ1 g' D' (by grind) ⟨by simp [hL.size], ?_,fun x hx=>hL.fp x (by grind),fun k o' hk ho' e he hb=> ?_⟩ (hdf.trans hds) hs h2,(fun v hv=>by cases hv)⟩
   ·rw [acU hi' (n:=0),<-hL.fst]
    have hne: ∀x∈pre++post,x.1≠i:=by
     intro x hx
     rw [List.map_append,List.map_cons] at hsorted
     have hnd:(pre.map (·.1)++i::post.map (·.1)).Nodup:=hsorted.imp (fun h=>Nat.ne_of_lt h)
     grind
    simp only [List.map_append,List.map_cons,List.filter_append]
    rw [List.filter_cons_of_neg (by simp)]
    rw [<-List.filter_append,<-List.map_append,List.filter_eq_self.2]
    grind
   ·by_cases hki:k=i
    ·subst hki
     rw [ho] at ho'
     injection ho' with ho'
     subst ho'
     have:=hdir e he hb
     by_cases hei:k=e.on<;>simp_all
    ·have hk':listed.getD k false=true:=by
      simp_all [Ne.symm]
     have:=hL.closed k o' hk' ho' e he hb
     by_cases hei:i=e.on<;>simp_all
theorem aj7: ∀ (l:List Oper) (i:Nat) (σ σ':St U) (fps:List (List Loc)) (v:PV U),ops.toList.drop i=l->mW K V S ops.toList l σ fps (.panic v) σ'->
  ∃fs f o σ1,fps=fs++[f]/\ops[i+fs.length]? =some o/\SeqRel V K S ops ((List.range' i fs.length).zip fs) σ σ1/\(jv V S o (gJ ops.toList)).Rel K σ1 [] (.raise v) σ' f:=by
 intro l
 induction l with
 |nil=>intro i σ σ' fps v _ h;obtain ⟨_,h2,_⟩:=h;cases h2
 |cons o l ih=>
  intro i σ σ' fps v hd h
  have hi:ops[i]? =some o:=by
   have:=congrArg (·[0]?) hd
   grind
  have hd':ops.toList.drop (i+1)=l:=by rw [<-List.drop_drop,hd];rfl
  rcases h with ⟨σ1,f,fps',h1,h2,h3⟩|⟨v',f,h1,h2,h3⟩
  ·subst h3
   obtain ⟨fs,f',o',σ2,h4,h5,h6,h7⟩:=ih (i+1) σ1 σ' fps' v hd' h2
   subst h4
   refine ⟨f::fs,f',o',σ2,rfl, ?_,⟨o,σ1,hi,h1,h6⟩,h7⟩
   grind
  ·injection h2 with h2
   subst h2
   exact ⟨[],f,o,σ,h3,by omega,St.eqv.refl _,h1⟩
def SeqR (V:Env U) (K:cj U) (S:Side U) (ops:Array Oper):List (Nat×List Loc×MR U)->St U->St U->Prop
 |[],σ,σ'=>σ.eqv σ'
 |(i,f,r)::l,σ,σ'=> ∃o σ1,ops[i]? =some o/\(jv V S o (gJ ops.toList)).Rel K σ [] r σ1 f/\SeqR V K S ops l σ1 σ'
theorem SeqR.pre {l:List (Nat×List Loc×MR U)}: ∀ {σ0 σ σ':St U},SeqR V K S ops l σ σ'->σ.eqv σ0->SeqR V K S ops l σ0 σ':=by
 induction l with
 |nil=>intro σ0 σ σ' h he;exact he.symm.trans h
 |cons x l ih=>
  obtain ⟨i,f,r⟩:=x
  intro σ0 σ σ' h he
  obtain ⟨o,σ1,ho,h1,h2⟩:=h
  obtain ⟨τ,h3,h4⟩:=h1.eqv K he
  exact ⟨o,τ,ho,h3,ih h2 h4⟩
theorem SeqR.append {l l':List (Nat×List Loc×MR U)}: ∀ {σ σ1 σ':St U},SeqR V K S ops l σ σ1->SeqR V K S ops l' σ1 σ'->SeqR V K S ops (l++l') σ σ':=by
 induction l with
 |nil=>intro σ σ1 σ' h h';exact h'.pre (St.eqv.symm h)
 |cons x l ih=>
  obtain ⟨i,f,r⟩:=x
  intro σ σ1 σ' h h'
  obtain ⟨o,σ2,ho,h1,h2⟩:=h
  exact ⟨o,σ2,ho,h1,ih h2 h'⟩
theorem SeqR.ofSeq: ∀ {l:List (Nat×List Loc)} {σ σ':St U},SeqRel V K S ops l σ σ'->SeqR V K S ops (l.map fun x=>(x.1,x.2,.done)) σ σ':=by
 intro l
 induction l with
 |nil=>intro σ σ' h;exact h
 |cons x l ih=>
  obtain ⟨i,f⟩:=x
  intro σ σ' h
  obtain ⟨o,σ1,ho,h1,h2⟩:=h
  exact ⟨o,σ1,ho,h1,ih h2⟩
theorem SeqR.front {i:Nat} {f:List Loc} {r:MR U} {post:List (Nat×List Loc×MR U)}: ∀ (pre:List (Nat×List Loc×MR U)) {σ σ':St U},SeqR V K S ops (pre++(i,f,r)::post) σ σ'->(∀x∈pre,dD x.2.1 f=true)->
  SeqR V K S ops ((i,f,r)::(pre++post)) σ σ':=by
 intro pre
 induction pre with
 |nil=>simp
 |cons x pre ih=>
  obtain ⟨j,g,q⟩:=x
  intro σ σ' h ha
  obtain ⟨o,σ1,ho,h1,h2⟩:=h
  obtain ⟨o',σ2,ho',h3,h4⟩:=ih h2 (fun x hx=>ha x (by simp [hx]))
  obtain ⟨τ1,τ2,h5,h6,h7⟩:=Rel.swap K h1 h3 (ha (j,g,q) (by simp))
  exact ⟨o',τ1,ho',h5,o,τ2,ho,h6,h4.pre h7⟩
structure Alike (σ0 σ σ':St U):Prop where
 b: ∀id,(σ0.b id).isSome=true->σ'.b id=σ.b id
 o: ∀i,σ'.o i=σ.o i
 u: ∀i,σ'.u i=σ.u i
theorem SeqR.harmless {σ0:St U}: ∀ (l:List (Nat×List Loc×MR U)) {σ σ1:St U},SeqR V K S ops l σ σ1->(∀x∈l,PI.harmless σ0 x.2.1=true)->Alike σ0 σ σ1:=by
 intro l
 induction l with
 |nil=>intro σ σ1 h _;exact ⟨fun id _=>(h.b id).symm,fun i=>(h.o i).symm,fun i=>(h.u i).symm⟩
 |cons x l ih=>
  obtain ⟨j,g,q⟩:=x
  intro σ σ1 h ha
  obtain ⟨o,σa,ho,h1,h2⟩:=h
  obtain ⟨g',hg,l1⟩:=h1.loc K
  simp at hg
  subst hg
  have hg:=ha (j,g,q) (by simp)
  have hst: ∀k,(∀n,k≠ .r n)->(∀id,(k= .b id\/ ∃i,k= .c id i)->(σ0.b id).isSome=true)->σa.at_ k=σ.at_ k:=by
   intro k hk hb
   refine l1.stay k fun l hl hw=> ?_
   have:=ars.1 hg l hl
   cases l with
   |wr n=>exact hk _ hw
   |wb id=>
    have h3:=hb id hw
    simp_all
   |wo n=>grind
   |wu n=>grind
   |fu n=>grind
   |wh n m=>grind
   |_=>exact hw.elim
  have a:=ih h2 fun x hx=>ha x (by simp [hx])
  refine ⟨fun id hid=>(a.b id hid).trans ?_,fun i=>(a.o i).trans ?_,fun i=>(a.u i).trans ?_⟩
  ·grind [ay0]
  ·have:=hst (.o i) (by simp) (by simp)
   grind [St.at_]
  ·have:=hst (.u i) (by simp) (by simp)
   grind [St.at_]
theorem Zy {p:Nat->Bool}: ∀ (n s:Nat),(cK s n).all p=true-> ∀i,s<=i->i<s+n->p i=true:=by
 intro n
 induction n<;>grind [cK]
structure Raises (ops:Array Oper) (σ0:St U) (L:List (Nat×List Loc×MR U)) (j:Nat) (v:PV U):Prop where
 nodup:(L.map (·.1)).Nodup
 lt: ∀x∈L,x.1<ops.size
 order:L.Pairwise fun x y=>((dE ops.toList []).getD y.1 0).testBit x.1=true\/dD x.2.1 y.2.1=true
 first: ∀pre x post,L=pre++x::post-> ∀o,ops[x.1]? =some o-> ∀e∈o.after.toList,Region.binds .any e=true->e.on∈pre.map (·.1)
 done: ∀x∈L,x.1≠j->x.2.2= .done
 raise: ∀x∈L,x.1=j->x.2.2= .raise v
 harm: ∀x∈L,x.1≠j->((dE ops.toList []).getD j 0).testBit x.1=true\/PI.harmless σ0 x.2.1=true
 after: ∀i,i<ops.size->i∉L.map (·.1)->((dE ops.toList []).getD i 0).testBit j=true
theorem alq (hS:mV X K S c) (hall:ops.toList.all (bq c.nt)=true) (hfor:ik 0 ops.toList=true) {σ0 σe:St U} {L:List (Nat×List Loc×MR U)} {j:Nat} {v:PV U} (hR:Raises ops σ0 L j v) {ds:List Deferred}
  (hl: ∀a' w' g' D' τ,a'.defers=ds->Sim X c a'.tmps w' τ g' D'->Alike σ0 τ σe-> ∀val,Rep X w' (c.N g' D') g' val v->Q (.panic [{v:=val,recovered:=false}]) a' w'):
  ∀ (m:Nat) (listed:Array Bool) (rem:List (Nat×List Loc×MR U)) (a:Act) (w:World) (σ:St U) (g:Gh U) (D:Nat->Option Nat),rem.length=m->listed.size=ops.size->rem=L.filter (fun x=> !listed.getD x.1 true)->
   (∀i,i<ops.size->i∉L.map (·.1)->listed.getD i false=false)->listed.getD j false=false->j∈L.map (·.1)->Cb ops (fun i=>listed.getD i false=true)->a.defers=ds->Sim X c a.tmps w σ g D->SeqR V K S ops rem σ σe->
   wpAny P .any ops Q (m+(ops.size-L.length)) listed a w:=by
 have unl: ∀ {listed:Array Bool} {i:Nat},i<listed.size->listed.getD i true=listed.getD i false:=by
  grind
 have hfj: ∀ {listed:Array Bool} {i:Nat},i<ops.size->listed.size=ops.size->i∈Region.ready .any ops listed->listed.getD i true=false/\ ∃o,ops[i]? =some o/\ ∀e∈o.after.toList,Region.binds .any e=true->listed.getD e.on false=true:=by
  grind [Region.ready,Array.all_eq_true_iff_forall_mem]
 intro m
 induction m with
 |zero=>
  intro listed rem a w σ g D hlen hsz hrem hge hj hjL hcl hds h hseq
  exfalso
  have hnil:rem=[]:=List.eq_nil_of_length_eq_zero hlen
  obtain ⟨x,hx,hxj⟩:=art.1 hjL
  have:x∈rem:=by rw [hrem];exact List.mem_filter.2 ⟨hx,by rw [hxj,unl (by rw [hsz,<-hxj];exact hR.lt x hx),hj];rfl⟩
  grind
 |succ m ih=>
  intro listed rem a w σ g D hlen hsz hrem hge hj hjL hcl hds h hseq
  rw [show m+1+(ops.size-L.length)=(m+(ops.size-L.length))+1 by omega]
  have hmem: ∀x∈rem,x∈L/\listed.getD x.1 false=false:=by
   grind
  refine ⟨fun hr=> ?_,fun i hi=> ?_⟩
  ·exfalso
   cases hrm:rem with
   |nil=>grind
   |cons x rest=>
    have hxm:=hmem x (by grind)
    have hxlt:=hR.lt x hxm.1
    obtain ⟨pre,post,hpp⟩:=List.append_of_mem hxm.1
    have hpre: ∀y∈pre,listed.getD y.1 false=true:=by
     intro y hy
     cases hly:listed.getD y.1 false with
     |true=>rfl
     |false=>
      exfalso
      have hyL:y∈L:=by grind
      have hyr:(!listed.getD y.1 true)=true:=by rw [unl (by rw [hsz];exact hR.lt y hyL),hly];rfl
      rw [hpp,List.filter_append] at hrem
      have hne:pre.filter (fun x=> !listed.getD x.1 true)≠[]:=fun e=>by
       grind
      obtain ⟨z,zs,hz⟩:=List.exists_cons_of_ne_nil hne
      rw [hz,hrm] at hrem
      injection hrem with e1 e2
      subst e1
      have hxp:x∈pre:=by
       have:x∈pre.filter (fun x=> !listed.getD x.1 true):=by rw [hz];simp
       grind
      have hnd:=hR.nodup
      grind
    have hin:x.1∈Region.ready .any ops listed:=by
     simp only [Region.ready,List.mem_filter,List.mem_range,anZ]
     refine ⟨hxlt,by grind, ?_⟩
     rw [Array.getElem?_eq_getElem hxlt]
     simp only [Option.map_some,Option.getD_some]
     refine Array.all_eq_true_iff_forall_mem.2 fun e he=> ?_
     cases hb:Region.binds .any e with
     |false=>rfl
     |true=>
      have:=hR.first pre x post hpp _ (Array.getElem?_eq_getElem hxlt) e (Array.mem_toList_iff.2 he) hb
      grind
    grind
  ·have his:i<ops.size:=by grind [Region.ready]
   obtain ⟨h1,o,ho,hdir⟩:=hfj his hsz hi
   rw [unl (by omega)] at h1
   have hmask: ∀p,((dE ops.toList []).getD i 0).testBit p=true->listed.getD p false=true:=fun p hp=>Nz hfor hcl (i+1) i (Nat.lt_succ_self i) o ho hdir hp
   have hdo:bq c.nt o=true:=ars.1 hall o (Array.mem_toList_iff.2 (Array.mem_of_getElem? ho))
   by_cases hiL:i∈L.map (·.1)
   ·obtain ⟨x,hxL,hxi⟩:=art.1 hiL
    have hxr:x∈rem:=by grind
    obtain ⟨pre,post,hpp⟩:=List.append_of_mem hxr
    have hord:rem.Pairwise fun x y=>((dE ops.toList []).getD y.1 0).testBit x.1=true\/dD x.2.1 y.2.1=true:=by rw [hrem];exact hR.order.filter _
    have hnd:(rem.map (·.1)).Nodup:=by
     rw [hrem]
     exact hR.nodup.sublist ((List.filter_sublist).map _)
    have hpre: ∀y∈pre,dD y.2.1 x.2.1=true:=by
     intro y hy
     grind
    rw [hpp] at hseq
    obtain ⟨xi,xf,xr⟩:=x
    simp only at hxi
    subst hxi
    obtain ⟨o',σa,ho',h2,h3⟩:=hseq.front pre hpre
    rw [ho] at ho'
    injection ho' with ho'
    subst ho'
    by_cases hij:xi=j
    ·subst hij
     have hrr:=hR.raise _ hxL rfl
     simp only at hrr
     subst hrr
     have hro: ∀y∈pre++post,PI.harmless σ0 y.2.1=true:=by
      intro y hy
      have hyr:y∈rem:=by grind
      obtain ⟨hyL,hyl⟩:=hmem y hyr
      have hne:y.1≠xi:=by
       grind
      rcases hR.harm y hyL hne with hb|hb<;>grind
     unfold wpOp
     rw [ho]
     refine vv hS hdo h h2 ⟨(fun hv=>by cases hv),fun v' hv w' g' D' val hrep hs=> ?_⟩
     grind [SeqR.harmless]
    ·have hrr:=hR.done _ hxL hij
     simp only at hrr
     subst hrr
     have hi':xi<listed.size:=by omega
     unfold wpOp
     rw [ho]
     have hset: ∀k,k≠xi-> ∀d,(listed.setIfInBounds xi true).getD k d=listed.getD k d:=by
      intro k hk d
      simp [as1,Ne.symm hk]
     refine vv hS hdo h h2 ⟨fun _ a' w' g' D' hdf hs=>ih (listed.setIfInBounds xi true) (pre++post) a' w' σa g' D' (by grind) (by simp [hsz]) ?_ (fun k hk hkL=> ?_) (by rw [hset j (Ne.symm hij)];exact hj) hjL (fun k o' hk ho' e he hb=> ?_) (hdf.trans hds) hs h3,(fun v hv=>by cases hv)⟩
     ·have e1:L.filter (fun x=> !(listed.setIfInBounds xi true).getD x.1 true)=rem.filter (fun x=>x.1 !=xi):=by
       rw [hrem,List.filter_filter]
       refine List.filter_congr fun y hy=> ?_
       by_cases hyx:y.1=xi
       ·rw [hyx];simp
       ·rw [hset y.1 hyx];simp [hyx]
      grind [List.filter_eq_self,List.mem_map_of_mem]
     ·have:k≠xi:=fun e=>hkL (e▸hiL)
      rw [hset k this];grind
     ·show (listed.setIfInBounds xi true).getD e.on false=true
      have hk2:(listed.setIfInBounds xi true).getD k false=true:=hk
      by_cases hki:k=xi
      ·subst hki
       rw [ho] at ho'
       injection ho' with ho'
       subst ho'
       have:=hdir e he hb
       by_cases hei:k=e.on
       ·grind
       ·rw [hset _ (Ne.symm hei)];exact this
      ·rw [hset k hki] at hk2
       have:=hcl k o' hk2 ho' e he hb
       by_cases hei:xi=e.on
       ·grind
       ·rw [hset _ (Ne.symm hei)];exact this
   ·exfalso
    have:=hmask j (hR.after i his hiL)
    grind
end
section
variable {U:Uni} {V:Env U} {P:Program} {X:Link V P} {K:cj U} {S:Side U} {c:Ctx} {ops:Array Oper} {σ0 σ1:St U}
theorem uO {o:Oper} {y:Tmp×Nat} (h:uN V S σ0 σ1 o=some y): ∃t z,o.op= .alloc t/\o.dst=some y.1/\o.guard=none/\V.zero t=some z/\y.2=S.boxId y.1/\σ0.b y.2=none/\σ1.b y.2=none/\ ∀e∈o.after.toList,Region.binds .any e=false:=by
 grind [uN,Option.isNone_iff_eq_none,Option.isSome_iff_exists]
theorem agb {bf:List Nat} {j:Nat}: ∀ (l:List Oper) (i:Nat) (fps:List (List Loc)) (ll:List (Nat×List Loc)),ops.toList.drop i=l->qV V S σ0 σ1 bf j i l fps=some ll->
  (∀x∈ll,i<=x.1/\x.1<ops.size/\ ∃o y,ops[x.1]? =some o/\uN V S σ0 σ1 o=some y/\x.2=jq y)/\(ll.map (·.1)).Pairwise (· < ·)/\(∀x∈ll,∀f∈fps,dD f x.2=true)/\ll.Pairwise (fun x y=>dD x.2 y.2=true)/\
  ∀k,i<=k->k<ops.size->k∉ll.map (·.1)->(bf.getD k 0).testBit j=true:=by
 intro l
 induction l with
 |nil=>
  intro i fps ll hd h
  simp only [qV] at h
  injection h with h
  subst h
  refine ⟨by simp,by simp,by simp,by simp,fun k hk hk2 _=> ?_⟩
  exfalso
  have:=congrArg List.length hd
  grind
 |cons o l ih=>
  intro i fps ll hd h
  have hi:ops[i]? =some o:=by
   have:=congrArg (·[0]?) hd
   grind
  have his:i<ops.size:=(asV.1 hi).1
  have hd':ops.toList.drop (i+1)=l:=by rw [<-List.drop_drop,hd];rfl
  simp only [qV] at h
  cases hb:(bf.getD i 0).testBit j with
  |true=>
   rw [hb] at h
   obtain ⟨a,b,c,d,e⟩:=ih (i+1) fps ll hd' h
   grind
  |false=>
   rw [hb] at h
   simp only [cond_false] at h
   split at h
   case h_2=>cases h
   rename_i y hy
   cases hap:fps.all (fun f=>dD f (jq y)) with
   |false=>grind
   |true=>
   rw [hap] at h
   simp only [cond_true] at h
   split at h
   case h_2=>cases h
   rename_i l' hl'
   injection h with h
   subst h
   obtain ⟨a,b,c,d,e⟩:=ih (i+1) (jq y::fps) l' hd' hl'
   refine ⟨fun x hx=> ?_, ?_,fun x hx f hf=> ?_, ?_,fun k hk hk2 hkn=> ?_⟩
   ·grind
   ·grind [List.pairwise_cons]
   ·grind
   ·simp only [List.pairwise_cons]
    exact ⟨fun x hx=>c x hx _ (by simp),d⟩
   grind
theorem aga: ∀ (ll:List (Nat×List Loc)) (σ:St U),(∀x∈ll,∃o y,ops[x.1]? =some o/\uN V S σ0 σ1 o=some y/\x.2=jq y/\σ.b y.2=none)->ll.Pairwise (fun x y=>dD x.2 y.2=true)->
  ∃σe,SeqR V K S ops (ll.map fun x=>(x.1,x.2,.done)) σ σe:=by
 intro ll
 induction ll with
 |nil=>intro σ _ _;exact ⟨σ,St.eqv.refl _⟩
 |cons x ll ih=>
  intro σ h hp
  obtain ⟨o,y,ho,hy,hx,hb⟩:=h x (by simp)
  obtain ⟨t,z,h1,h2,h3,h4,h5,_⟩:=uO hy
  simp only [List.pairwise_cons] at hp
  obtain ⟨σe,he⟩:=ih ((σ.setB y.2 (.cells z)).setR y.1 (.ptr y.2 0)) (fun x' hx'=>by
   obtain ⟨o',y',a,b,c,d⟩:=h x' (by simp [hx'])
   refine ⟨o',y',a,b,c, ?_⟩
   have hne:y.2≠y'.2:=by
    intro e
    have:=hp.1 x' hx'
    rw [hx,c] at this
    simp [dD,jq,Loc.meets,e] at this
   simp_all) hp.2
  refine ⟨σe,o,_,ho, ?_,he⟩
  unfold jv
  rw [h3]
  simp only
  unfold bL
  rw [h1]
  simp only [h2,h4,<-h5,M.Rel,hb]
  exact ⟨trivial,trivial,by rw [hx];rfl⟩
theorem LD {y:Tmp×Nat} (h:σ0.b y.2=none):PI.harmless σ0 (jq y)=true:=by
 simp [PI.harmless,jq,h]
theorem aik {fs:List (List Loc)} {f:List Loc} {o:Oper} {σ σa σ' σ'':St U} {v:PV U} (ho:ops[fs.length]? =some o) (hseq:SeqRel V K S ops ((List.range' 0 fs.length).zip fs) σ σa) (hj:(jv V S o (gJ ops.toList)).Rel K σa [] (.raise v) σ' f) (he:σ'.eqv σ'')
  (hf:vR V S ops.toList σ σ'' (fs++[f])=true): ∃L σe,Raises ops σ L fs.length v/\SeqR V K S ops L σ σe/\Alike σ σ'' σe/\ik 0 ops.toList=true/\fs.length∈L.map (·.1)/\L.length<=ops.size:=by
 unfold vR at hf
 simp only [anZ,List.length_append,List.length_singleton,Nat.add_sub_cancel] at hf
 obtain ⟨hfor,hfree,hharm,hlate⟩:=hf
 obtain ⟨ll,hll⟩:=Option.isSome_iff_exists.1 hlate
 obtain ⟨a,b,cc,d,e⟩:=agb (ops:=ops) _ _ _ ll rfl hll
 have hjs:fs.length<ops.size:=(asV.1 ho).1
 obtain ⟨σe,hse⟩:=aga (K:=K) (V:=V) (S:=S) (ops:=ops) (σ0:=σ) (σ1:=σ'') ll σ' (fun x hx=>by
  obtain ⟨_,_,o',y,h1,h2,h3⟩:=a x hx
  obtain ⟨_,_,_,_,_,_,_,_,h4,_⟩:=uO h2
  exact ⟨o',y,h1,h2,h3,(he.b _).trans h4⟩) d
 generalize hEx:(List.range' 0 fs.length).zip fs=ex at hseq
 have hex:ex.map (·.1)=List.range' 0 fs.length:=by grind [List.map_fst_zip]
 have hexm: ∀x∈ex,x.1<fs.length/\fs[x.1]? =some x.2:=by
  grind [List.mem_iff_getElem?]
 let L:List (Nat×List Loc×MR U):=(ex.map fun x=>(x.1,x.2,MR.done))++((fs.length,f,MR.raise v)::ll.map fun x=>(x.1,x.2,MR.done))
 have hLm:L.map (·.1)=List.range' 0 (fs.length+1)++ll.map (·.1):=by
  simp only [L,List.map_append,List.map_map,List.map_cons]
  have:(fun x:Nat×List Loc×MR U=>x.1)∘(fun x:Nat×List Loc=>(x.1,x.2,(MR.done:MR U)))=fun x=>x.1:=rfl
  grind [List.range'_concat]
 have hinc:(L.map (·.1)).Pairwise (· < ·):=by
  rw [hLm,List.pairwise_append]
  grind [List.pairwise_lt_range']
 have cases3: ∀x∈L,(∃y∈ex,x=(y.1,y.2,.done))\/x=(fs.length,f,.raise v)\/ ∃y∈ll,x=(y.1,y.2,.done):=by
  intro x hx
  simp only [L,arH,art,arR] at hx
  grind
 have hLlt: ∀x∈L,x.1<ops.size:=by
  grind
 have hfps: ∀x∈ex,x.2∈fs++[f]:=fun x hx=>by
  grind
 refine ⟨L,σe,⟨hinc.imp Nat.ne_of_lt,hLlt, ?_, ?_, ?_, ?_, ?_, ?_⟩, ?_, ?_,hfor, ?_, ?_⟩
 ·
  simp only [L,List.pairwise_append,List.pairwise_cons]
  have fo: ∀p q g h,p<q->(fs++[f])[p]? =some g->(fs++[f])[q]? =some h->((dE ops.toList []).getD q 0).testBit p=true\/dD g h=true:=fun p q g h hpq hp hq=>
   KJ _ (fs++[f]) 0 [] rfl hfree p q g h hpq (by grind) (by grind) (by simp)
  refine ⟨?_,⟨fun y hy=> ?_, ?_⟩,fun x hx y hy=> ?_⟩
  ·have h1:ex.Pairwise fun x y=>x.1<y.1:=by
    grind
   rw [List.pairwise_map]
   refine (List.Pairwise.and_mem.1 h1).imp fun {x y} h=> ?_
   grind
  ·obtain ⟨z,hz,rfl⟩:=art.1 hy
   grind
  ·grind
  ·obtain ⟨x',hx',rfl⟩:=art.1 hx
   rcases arR.1 hy with rfl|hy
   ·grind
   ·obtain ⟨z,hz,rfl⟩:=art.1 hy
    grind
 ·
  intro pre x post hpp o' ho' ed hed hb
  have hxL:x∈L:=by grind
  have hk:x.1<=fs.length\/fs.length<x.1:=by omega
  rcases hk with hk|hk
  ·have hlt:=Eu ops.toList 0 x.1 _ hfor (by grind) ed hed hb
   rw [asP] at hlt
   have hin:ed.on∈L.map (·.1):=by
    grind
   grind [List.pairwise_cons]
  ·exfalso
   rcases cases3 x hxL with ⟨y,hy,rfl⟩|rfl|⟨y,hy,rfl⟩
   ·grind
   ·simp at hk
   ·obtain ⟨_,_,o2,y2,h1,h2,_⟩:=a y hy
    simp only at ho'
    rw [h1] at ho'
    injection ho' with ho'
    subst ho'
    obtain ⟨_,_,_,_,_,_,_,_,_,h3⟩:=uO h2
    grind
 ·intro x hx hne
  grind
 ·grind
 ·intro x hx hne
  rcases cases3 x hx with ⟨y,hy,rfl⟩|rfl|⟨y,hy,rfl⟩
  ·have:=Zy _ _ hharm y.1 (by omega) (by grind)
   grind
  ·omega
  ·obtain ⟨_,_,o2,y2,h1,h2,h3⟩:=a y hy
   obtain ⟨_,_,_,_,_,_,_,h4,_⟩:=uO h2
   grind [LD]
 ·grind
 ·exact SeqR.append (SeqR.ofSeq hseq) ⟨o,σ',ho,hj,hse⟩
 ·have hh:=SeqR.harmless (σ0:=σ) _ hse (fun x hx=>by
   obtain ⟨y,hy,rfl⟩:=art.1 hx
   obtain ⟨_,_,o2,y2,h1,h2,h3⟩:=a y hy
   grind [uO,LD])
  exact ⟨fun id hid=>(hh.b id hid).trans (he.b id),fun i=>(hh.o i).trans (he.o i),fun i=>(hh.u i).trans (he.u i)⟩
 ·grind
 ·have h1:(L.map (·.1)).length<=(ar3 ops.size).length:=by
   have hnd:(L.map (·.1)).Nodup:=hinc.imp Nat.ne_of_lt
   refine List.Nodup.length_le_of_subset hnd fun i hi=> ?_
   grind
  grind
theorem aiu {σ τ:St U} (ho:σ.o=τ.o) (hu:σ.u=τ.u) (t:Option (Nat×Bool)) (v:PV U) (K:Kept U):mA σ t v K=mA τ t v K:=by
 simp_all [mA]
theorem aE7 {σ τ:St U} (ho:σ.o=τ.o) (hu:σ.u=τ.u): ∀ (ts:List (Option (Nat×Bool))) (vs:List (PV U)) (K:Kept U),iW σ ts vs K=iW τ ts vs K:=by
 intro ts
 induction ts with
 |nil=>intro vs K;cases vs<;>rfl
 |cons t ts ih=>
  intro vs K
  cases vs<;>grind [iW,aiu]
theorem ZZ {σ τ:St U} (ho:σ.o=τ.o) (hu:σ.u=τ.u): ∀ (l:List (Nat×List (Option (Nat×Bool)))) (K:Kept U),(∀x∈l,σ.b x.1=τ.b x.1)->fO σ l K=fO τ l K:=by
 intro l
 induction l with
 |nil=>intro K _;rfl
 |cons x l ih=>
  obtain ⟨n,ts⟩:=x
  intro K h
  have h1:=h (n,ts) (by simp)
  simp only at h1
  have h2: ∀K,fO σ l K=fO τ l K:=fun K=>ih K fun x hx=>h x (by simp [hx])
  grind [fO,aE7]
theorem agI: ∀ (l:List Nat) (n:Nat),n∈pC l->n∈l:=by
 intro l
 induction l<;>grind [pC]
theorem agz {α:Type}: ∀ (l:List (Nat×α)) (n:Nat),n∈l.map (·.1)->(cq l n).isSome=true:=by
 intro l
 induction l<;>grind [iD]
theorem JA {σ0 σ τ:St U} (h:Alike σ0 σ τ):dS (iN σ0 τ) τ=dS (iN σ0 σ) σ:=by
 have hkeys: ∀id∈pC (σ0.box.map (·.1)),τ.b id=σ.b id:=fun id hid=>h.b id (agz _ _ (agI _ _ hid))
 have hA:iN σ0 τ=iN σ0 σ:=by
  grind [iN,List.map_congr_left]
 rw [hA]
 have hB: ∀K,fO τ (iN σ0 σ).boxes K=fO σ (iN σ0 σ).boxes K:=fun K=>ZZ (funext h.o) (funext h.u) _ K fun x hx=>by
  obtain ⟨id,hid,rfl⟩:=art.1 hx
  grind
 grind [dS,iN,o8]
end
section
variable {U:Uni} {V:Env U} {P:Program} {X:Link V P} {K:cj U} {S:Side U} {c:Ctx} {ann:Nat->Option Ann}
theorem Lands.eqv {ds:List Deferred} {e:Ex U} {σ σ':St U} {Q:Exit->Act->World->Prop} (h:Lands X c ds e σ Q) (he:σ'.eqv σ):Lands X c ds e σ' Q:=
 fun a w g D hd hs=>h a w g D hd (hs.eqv he)
def wE (X:Link V P) (c:Ctx):Option Ann->Code->St U->Ex U->St U->Prop
 |none,code,σ,e,σ'=> ∀ (a:Act) (w:World) (g:Gh U) (D:Nat->Option Nat) (Q:Exit->Act->World->Prop),Sim X c a.tmps w σ g D->Lands X c a.defers e σ' Q->code.wp P Q a w
 |some A,code,σ,e,σ'=> ∃n,∀ (a:Act) (w:World) (g:Gh U) (D:Nat->Option Nat) (Q:Exit->Act->World->Prop),Sim X c a.tmps w σ g D->Lands X c a.defers e σ' Q->Code.rounds P code Q n a w
theorem T1 {next:Act->World->Prop} {Q:Exit->Act->World->Prop} {ds:List Deferred} {e:Ex U} {σ':St U} (h:Lands X c ds e σ' Q) (he:e≠ .normal):Lands X c ds e σ' (Exit.then next Q):=by
 intro a w g D hd hs
 have:=h a w g D hd hs
 cases e with
 |normal=>grind
 |exit id=>exact this
 |ret=>exact this
 |panic v=>exact this
theorem adh {Q:Exit->Act->World->Prop} {ds:List Deferred} {e:Ex U} {σ':St U} {id:Nat} (h:Lands X c ds e σ' Q) (he:e≠ .exit id):Lands X c ds e σ' (Exit.inBlock id Q):=by
 intro a w g D hd hs
 have:=h a w g D hd hs
 grind [Exit.inBlock]
theorem agR {Q:Exit->Act->World->Prop} {ds:List Deferred} {e:Ex U} {σ':St U} (h:Lands X c ds e σ' Q):Lands X c ds e σ' (Exit.noGoto Q):=by
 intro a w g D hd hs
 have:=h a w g D hd hs
 cases e with
 |normal=>exact this
 |exit id=>exact this
 |ret=>exact this
 |panic v=>exact this
theorem oX (hm:P.follows .mixedOrders=true) (hS:mV X K S c) (hnt:c.nt=S.nt) {o:Option Ann} {code:Code} {σ:St U} {e:Ex U} {σ':St U} (h:Big K V S ann o code σ e σ'):wE X c o code σ e σ':=by
 induction h with
 |skip σ=>exact fun a w g D Q hs hl=>Go.wp_skip (hl a w g D rfl hs)
 |label l σ=>exact fun a w g D Q hs hl=>wp_label (hl a w g D rfl hs)
 |region id ops draw σ e σ' fps hd h hf=>
  intro a w g D Q hs hl
  rw [<-hnt] at hd
  cases draw with
  |false=>
   refine wp_region ?_
   rw [List.range_eq_range']
   have:=Ur (Q:=Q) hS ops.toList 0 a w σ g D fps (by simp) hd hs h hl
   omega
  |true=>
   obtain ⟨rfl,hfor,hfree⟩:=hf rfl
   refine wp_region_any hm ?_
   obtain ⟨hlen,hseq⟩:=aj6 ops.toList 0 σ σ' fps (by simp) h
   have hlen':fps.length=ops.size:=by omega
   refine alp hS hd hfor hfree hl ops.size _ ((List.range' 0 ops.toList.length).zip fps) a _ σ g D (by grind) ⟨by simp, ?_,fun x hx=> ?_,fun k o hk=> ?_⟩ rfl hs.drew hseq
   ·have h1:((List.range' 0 ops.toList.length).zip fps).map (·.1)=List.range' 0 ops.toList.length:=List.map_fst_zip (by grind)
    rw [h1,List.filter_eq_self.2,List.range_eq_range']
    all_goals simp_all
   ·grind [List.mem_iff_getElem?]
   ·exfalso
    have:(Array.replicate ops.size false).getD k false=false:=by
     rw [as1,Array.getElem?_replicate]
     grind
    grind
 |regionP id ops σ v σ' σ'' τ fps hd h he hv hf hc=>
  intro a w g D Q hs hl
  rw [<-hnt] at hd
  obtain ⟨fs,f,o,σ1,hfps,ho,hseq,hj⟩:=aj7 (ops:=ops) ops.toList 0 σ σ' fps v (by simp) h
  subst hfps
  rw [asP] at ho
  obtain ⟨L,σe,hR,hsq,hal,hfor,hjL,hlen⟩:=aik ho hseq hj he hf
  refine wp_region_any hm ?_
  have hjs:fs.length<ops.size:=(asV.1 ho).1
  have hrep: ∀i d,(Array.replicate ops.size false).getD i d=(if i<ops.size then false else d):=by
   intro i d
   rw [as1,Array.getElem?_replicate]
   grind
  have hwp:=alq (v:=v) hS hd hfor hR (ds:=a.defers) (Q:=Q) (fun a' w' g' D' τ' hdf hs' hal' val hval=>by
    have hc2:dS (iN σ τ') τ'=some τ:=by rw [<-JA hal',JA hal];exact hc
    obtain ⟨g2,D2,hs2⟩:=ym hs' hc2
    refine hl a' w' g2 D2 hdf hs2 val ?_
    cases v with
    |iface t p=>
     cases p with
     |int k n=>cases hval with
      |iface _ u _ hu=>cases hu;exact .iface _ _ _ (.int _ _)
     |_=>cases hv
    |_=>cases hv) L.length (Array.replicate ops.size false) L a _ σ g D rfl (by simp) ?_ (fun i hi _=>by simp_all) (by simp_all) hjL (fun k o' hk=> ?_) rfl hs.drew hsq
  ·simp_all
  ·rw [List.filter_eq_self.2]
   intro x hx
   rw [hrep,if_pos (hR.lt x hx)];rfl
  simp_all
 |seqN x y σ σ1 e σ' h1 h2 i1 i2=>
  intro a w g D Q hs hl
  exact wp_seq (i1 a w g D _ hs fun a' w' g' D' hd hs'=>i2 a' w' g' D' Q hs' (by grind))
 |seqJ x y A σ σ1 τ e σ' h1 hA hc h2 i1 i2=>
  intro a w g D Q hs hl
  refine wp_seq (i1 a w g D _ hs fun a' w' g' D' hd hs'=> ?_)
  obtain ⟨g2,D2,hs2⟩:=ym hs' hc
  exact i2 a' w' g2 D2 Q hs2 (by grind)
 |seqE x y σ e σ' h1 he i1=>exact fun a w g D Q hs hl=>wp_seq (i1 a w g D _ hs (T1 hl he))
 |cond j x y σ t e σ' hj h ih=>
  intro a w g D Q hs hl
  have hR:=hs.regs j
  rw [hj] at hR
  refine wp_cond (t:=t) (kV hR) ?_
  cases t with
  |true=>exact ih a w g D Q hs hl
  |false=>exact ih a w g D Q hs hl
 |blockIn id x σ σ' h ih=>
  intro a w g D Q hs hl
  refine wp_block (ih a w g D _ hs fun a' w' g' D' hd hs'=> ?_)
  simp only [Exit.inBlock,if_true]
  exact hl a' w' g' D' hd hs'
 |blockOut id x σ e σ' h he ih=>exact fun a w g D Q hs hl=>wp_block (ih a w g D _ hs (adh hl he))
 |loop x A σ τ e σ' hA hc h ih=>
  intro a w g D Q hs hl
  obtain ⟨n,hn⟩:=ih
  obtain ⟨g',D',hs'⟩:=ym hs hc
  grind [wp_loop_rounds]
 |scope x σ e σ' h ih=>exact fun a w g D Q hs hl=>wp_scope_straight (ih a w g D _ hs (agR hl))
 |exit id σ=>exact fun a w g D Q hs hl=>wp_exit (hl a w g D rfl hs)
 |ret σ=>exact fun a w g D Q hs hl=>wp_ret (hl a w g D rfl hs)
 |round x A σ σ1 τ e σ' h hc h' i1 i2=>
  obtain ⟨n,hn⟩:=i2
  refine ⟨n+1,fun a w g D Q hs hl=> ?_⟩
  rw [rounds_succ]
  refine i1 a w g D _ hs fun a' w' g' D' hd hs'=> ?_
  obtain ⟨g2,D2,hs2⟩:=ym hs' hc
  exact hn a' w' g2 D2 Q hs2 (by grind)
 |leave x A σ e σ' h he i1=>
  refine ⟨1,fun a w g D Q hs hl=> ?_⟩
  rw [rounds_succ]
  exact i1 a w g D _ hs (T1 hl he)
 |pre o x σ0 σ e σ' he h ih=>
  cases o with
  |none=>exact fun a w g D Q hs hl=>ih a w g D Q (hs.eqv he) hl
  |some A=>obtain ⟨n,hn⟩:=ih;exact ⟨n,fun a w g D Q hs hl=>hn a w g D Q (hs.eqv he) hl⟩
 |post o x σ e σ1 σ' he h ih=>
  cases o with
  |none=>exact fun a w g D Q hs hl=>ih a w g D Q hs (hl.eqv he)
  |some A=>obtain ⟨n,hn⟩:=ih;exact ⟨n,fun a w g D Q hs hl=>hn a w g D Q hs (hl.eqv he)⟩
end
section
variable {U:Uni} {V:Env U} {P:Program} {X:Link V P} {S:Side U} {c:Ctx}
theorem oi (hI:lf X) (hS:S.rcv=none) (hP:PinOK S c):mV X (ci X) S c:=by
 intro o a w σ g D r τ fp gp next Q hd h hr ht
 obtain ⟨dst,op,ty,pos,after,gd⟩:=o
 cases op with
 |move x=>exact ahm hd h hr ht
 |assign x=>exact ag4 hd h hr ht
 |pick x y z=>exact ahp hd h hr ht
 |alloc t=>exact ag3 hP hd h hr ht
 |box t x=>exact ag6 hP hd h hr ht
 |build t ps=>exact ag7 hd h hr ht
 |buildSlice t n ps=>exact ag8 hd h hr ht
 |load t x=>exact ahg hd h hr ht
 |store t x y=>exact ahr h hr ht
 |nilCheck x=>exact ahn hd h hr ht
 |binOp b t x y u=>exact ag5 hd h hr ht
 |unOp u t x=>exact aht hd h hr ht
 |convert s t x=>exact aha hd h hr ht
 |makeFunc f xs ys=>cases f with
  |func f=>exact ahi hd h hr ht
  |_=>exact hr.elim
 |makeInterface t x=>exact ahj hd h hr ht
 |typeAssert x s t ok=>cases ok with
  |true=>exact ahs hd h hr ht
  |false=>exact hr.elim
 |makeMap t x=>cases x with
  |none=>exact ahk hd h hr ht
  |some x=>exact hr.elim
 |lookup t m x ok=>exact ahh hd h hr ht
 |mapUpdate t m x y=>exact ahl h hr ht
 |slice t x lo hi mx=>exact ahq hd h hr ht
 |fieldAddr s x f=>exact ahd hd h hr ht
 |field s x f=>exact ahc hd h hr ht
 |indexAddr t x i=>exact ahf hd h hr ht
 |index t x i=>exact ahe hd h hr ht
 |extract x i=>exact ahb hd h hr ht
 |panic x=>exact aho h hr ht
 |call cl=>
  cases hc:cl.callee with
  |builtin b=>
   by_cases hb:b= .recover
   ·subst hb
    obtain ⟨callee,args,ats⟩:=cl
    simp only at hc
    subst hc
    simp only [bL,hS] at hr
    exact hr.elim
   ·exact ag9 hc hb hd h hr ht
  |value f=>exact ag_ hI hc hd h hr ht
  |invoke x n=>
   obtain ⟨callee,args,ats⟩:=cl
   simp only at hc
   subst hc
   exact hr.elim
 |_=>exact hr.elim
end
section
variable {U:Uni} {V:Env U} {P:Program} {X:Link V P}
theorem akt: ∀ (args:List (PV U)) (s n:Nat),cq (wk s args) n=if s<=n then (args[n-s]?).map (R9 n) else none:=by
 intro args
 induction args with
 |nil=>intro s n;simp [wk,cq]
 |cons p args ih=>
  intro s n
  simp only [wk,iD,ih]
  by_cases h:s=n
  ·subst h;simp
  ·rw [if_neg h]
   by_cases h2:s<=n
   ·rw [if_pos h2,if_pos (by omega)]
    obtain ⟨k,rfl⟩: ∃k,n=s+(k+1):=⟨n-s-1,by omega⟩
    rw [show s+(k+1)-(s+1)=k by omega,show s+(k+1)-s=k+1 by omega]
    simp
   ·rw [if_neg h2,if_neg (by omega)]
def fi (args:List (PV U)) (j:Nat):Option (Ob U):=match args[j]? with|some (.fresh e l)=>some ⟨0,e,l⟩|_=>none
theorem R8: ∀ (args:List (PV U)) (s i:Nat),cq (gV s args) i=if 2000000+s<=i then fi args (i-2000000-s) else none:=by
 intro args
 induction args with
 |nil=>intro s i;simp [gV,cq,fi]
 |cons p args ih=>
  intro s i
  have tail:cq (gV (s+1) args) i=if 2000000+s<=i/\i≠2000000+s then fi (p::args) (i-2000000-s) else none:=by
   rw [ih]
   by_cases h:2000000+(s+1)<=i
   ·rw [if_pos h,if_pos ⟨by omega,by omega⟩]
    obtain ⟨k,rfl⟩: ∃k,i=2000000+s+(k+1):=⟨i-2000000-s-1,by omega⟩
    rw [show 2000000+s+(k+1)-2000000-(s+1)=k by omega,show 2000000+s+(k+1)-2000000-s=k+1 by omega]
    simp [fi]
   ·rw [if_neg h,if_neg (by omega)]
  have plain:p.notFresh=true->gV s (p::args)=gV (s+1) args:=by
   intro hp;cases p<;>first|rfl|cases hp
  by_cases hp:p.notFresh=true
  ·rw [plain hp,tail]
   by_cases h1:2000000+s<=i
   ·rw [if_pos h1]
    by_cases h2:i=2000000+s
    ·subst h2
     rw [if_neg (by omega)]
     have:2000000+s-2000000-s=0:=by omega
     rw [this]
     unfold fi
     simp only [List.getElem?_cons_zero]
     cases p<;>first|rfl|cases hp
    ·rw [if_pos ⟨h1,h2⟩]
   ·rw [if_neg h1,if_neg (by omega)]
  ·cases p with
   |fresh e l=>
    simp only [gV,iD,tail]
    by_cases h1:2000000+s=i
    ·subst h1
     rw [if_pos rfl,if_pos (aru _)]
     have:2000000+s-2000000-s=0:=by omega
     rw [this];rfl
    ·rw [if_neg h1]
     by_cases h2:2000000+s<=i
     ·rw [if_pos ⟨h2,Ne.symm h1⟩,if_pos h2]
     ·rw [if_neg (by omega),if_neg h2]
   |_=>exact absurd rfl hp
end
section
variable {U:Uni} {V:Env U} {P:Program} {X:Link V P}
theorem alD {boxes:List (Box U)}: ∀ (n s id:Nat) (bs:List (Box U)),n=bs.length->cq ((cK s n).zip bs) id=if s<=id then bs[id-s]? else none:=by
 intro n
 induction n with
 |zero=>intro s id bs h;have:bs=[]:=List.eq_nil_of_length_eq_zero h.symm;simp_all [cq]
 |succ n ih=>
  intro s id bs h
  cases bs<;>grind [cK,List.zip_cons_cons,iD]
def ata (n:Nat) (ν:Nat->Nat) (args:List (PV U)) (vs:Array Value):Gh U:=
 ⟨fun id=>if 1000000<=id/\id-1000000<n then some (ν (id-1000000)) else none,
  fun i=>if 2000000<=i then (fi args (i-2000000)).map (fun ob=>(0,ob.e,vs.getD (i-2000000) undef)) else none⟩
def mC (args:List (PV U)) (δ:Nat->Option Nat):Nat->Option Nat:=fun i=>if 2000000<=i then (fi args (i-2000000)).bind fun _=>δ (i-2000000) else none
def gm (w:World) (N0:aN) (n m:Nat) (ν:Nat->Nat) (δ:Nat->Option Nat) (ο:Nat->Array Value) (hoz: ∀b,w.heap.size<=b->ο b= #[]) (nt:Nat) (hnt:nt<=1000000) (h:Bnd w N0 n ν δ) (gl:List (Nat×Obj)) (hgl: ∀b o,(b,o)∈gl->w.heap[b]? =some o/\(∀i,i<n->ν i≠b)/\ ∀j,δ j≠some b):Ctx:=
 ⟨w,N0,avg n m ν δ,nt,fun b o hn=>⟨(h.n0 b o hn).1,fun hm=>by
  rcases arH.1 hm with hm|hm
  ·obtain ⟨k,hk,e⟩:=art.1 hm
   exact (h.n0 b o hn).2.1 k (List.mem_range.1 hk) e
  ·obtain ⟨j,_,hj⟩:=List.mem_filterMap.1 hm
   exact (h.n0 b o hn).2.2 j hj⟩,
  fun id=>if 1000000<=id/\id-1000000<n then some (ν (id-1000000)) else none,fun id k h=>(by
  grind),
  gl,fun b o hb=>⟨(hgl b o hb).1,fun hm=>by
  rcases arH.1 hm with hm|hm<;>grind⟩,ο,hoz⟩
structure CtxOf (c:Ctx) (w:World) (N0:aN) (n m:Nat) (ν:Nat->Nat) (δ:Nat->Option Nat) (ο:Nat->Array Value):Prop where
 cw:c.w0=w
 cN:c.N0=N0
 bl:c.bl=avg n m ν δ
 fix: ∀i,i<n->c.fix (df i)=some (ν i)
 other: ∀id k,c.fix id=some k->(∃i,i<n/\id=df i)\/w.heap.size<=k
 bnd:Bnd w N0 n ν δ
 oo:c.ο=ο
theorem lc {w:World} {N0:aN} {n m nt:Nat} {ν:Nat->Nat} {δ:Nat->Option Nat} {ο:Nat->Array Value} {hoz: ∀b,w.heap.size<=b->ο b= #[]} {hnt:nt<=1000000} {h:Bnd w N0 n ν δ} {gl:List (Nat×Obj)} {hgl: ∀b o,(b,o)∈gl->w.heap[b]? =some o/\(∀i,i<n->ν i≠b)/\ ∀j,δ j≠some b}:CtxOf (gm w N0 n m ν δ ο hoz nt hnt h gl hgl) w N0 n m ν δ ο where
 cw:=rfl
 cN:=rfl
 bl:=rfl
 fix i hi:=by
  grind [gm,df]
 other id k hk:=by
  simp only [gm] at hk
  split at hk
  ·rename_i h1;exact .inl ⟨id-1000000,h1.2,by simp [df];omega⟩
  grind
 bnd:=h
 oo:=rfl
variable {w:World} {vs:Array Value} {N0:aN} {ν:Nat->Nat} {δ:Nat->Option Nat} {ο:Nat->Array Value} {args:List (PV U)} {boxes:List (Box U)}
theorem wj {i b:Nat} (h:mC args δ i=some b):2000000<=i/\δ (i-2000000)=some b/\(fi args (i-2000000)).isSome=true:=by
 grind [mC,fi]
theorem aku (hg:Given X w vs N0 ν δ ο args boxes) (nt:Nat) (hnt:nt<=1000000): ∀b o,((gm w N0 boxes.length args.length ν δ ο hg.oz nt hnt hg.bnd X.gblk hg.glob).N (ata boxes.length ν args vs) (mC args δ)) b o->(NB N0 boxes.length ν δ) b o:=by
 rintro b o (hn|⟨id,hid⟩|⟨i,hi⟩)
 ·exact .inl hn
 ·simp only [ata] at hid
  split at hid
  ·rename_i h1
   injection hid with hid
   exact .inr (.inl ⟨_,h1.2,hid⟩)
  grind
 ·exact .inr (.inr ⟨_,(wj hi).2.1⟩)
theorem R_ (id:Nat):(gU args boxes).b id=if 1000000<=id then (boxes.map (Box.ren true df))[id-1000000]? else none:=by
 unfold St.b gU
 simp only
 rw [alD (boxes:=boxes) _ _ _ _ (by simp)]
 rfl
theorem BO (hg:Given X w vs N0 ν δ ο args boxes) {nt:Nat} (hnt:args.length<=nt) (hnt2:nt<=1000000):
  Sim X (gm w N0 boxes.length args.length ν δ ο hg.oz nt hnt2 hg.bnd X.gblk hg.glob) (vs++Array.replicate (nt-vs.size) undef) w (gU args boxes) (ata boxes.length ν args vs) (mC args δ):=by
 have hsub:=aku hg nt hnt2
 have hμ: ∀i b,(gB U boxes.length ν).μ i=some b->(ata boxes.length ν args vs).μ (df i)=some b:=by
  grind [gB,ata,df]
 have hvs: ∀n,n<args.length->(vs++Array.replicate (nt-vs.size) undef).getD n undef=vs.getD n undef:=by
  intro n hn
  have:n<vs.size:=by rw [hg.size];exact hn
  simp_all [Array.getElem?_append]
 have ho: ∀i ob,(gU args boxes).o i=some ob->2000000<=i/\fi args (i-2000000)=some ob:=by
  grind [St.o,gU,R8]
 have hb: ∀id b,(gU args boxes).b id=some b->1000000<=id/\ ∃b0,boxes[id-1000000]? =some b0/\b=b0.ren true df:=by
  grind [R_]
 refine {nt:=by simp [gm,hg.size];omega,regs:=fun n=> ?_,boxes:=fun id b h=> ?_,dom:=fun id k hk=> ?_,inj:=fun id id' k h1 h2=> ?_,new:=fun id k hk=> ?_,objs:=fun i ob h=> ?_,nobj:=fun i h=> ?_,dinj:=fun i j b h1 h2=> ?_,dnew:=fun i b h=> ?_,dbox:=fun i id b h1 h2=> ?_,ext:=Ext.refl _ _,gl:=rfl,fix:=fun id k hk=> .inl hk}
 ·unfold St.r gU
  simp only [akt,Nat.zero_le,if_true,Nat.sub_zero]
  cases hp:args[n]? with
  |none=>simp only [Option.map_none];exact .undef _
  |some p=>
   simp only [Option.map_some]
   have hn:=(asn.1 hp).1
   rw [hvs n hn]
   have hr:=hg.args n p hp
   by_cases hf:p.notFresh=true
   ·have:=(hr.rep hf).ren (g':=ata boxes.length ν args vs) (N':=(gm w N0 boxes.length args.length ν δ ο hg.oz nt hnt2 hg.bnd X.gblk hg.glob).N (ata boxes.length ν args vs) (mC args δ)) true df (fun _ _ _ _=>rfl) (fun b o _ h=>hsub b o h) (.inr fun _=>rfl) fun i _ b hb=>hμ i b hb
    cases p<;>first|exact this|cases hf
   ·cases p with
    |fresh e l=>
     obtain ⟨A,n',cp,hval,_⟩:=(show ObOK X w _ _ e l (vs.getD n undef) .wr (δ n) from hr).val
     have hfa:fi args n=some ⟨0,e,l⟩:=by unfold fi;rw [hp]
     refine .own (2000000+n) 0 _ 0 e (vs.getD n undef) ?_ (aru _) (fun _=>rfl) ⟨A,n',cp,hval⟩
     grind [ata]
    |_=>exact absurd rfl hf
 ·obtain ⟨h1,b0,h2,rfl⟩:=hb id b h
  have hlt:=(asn.1 h2).1
  have hμid:(ata boxes.length ν args vs).μ id=some (ν (id-1000000)):=if_pos ⟨h1,hlt⟩
  refine ⟨ν (id-1000000),hμid, ?_⟩
  exact (hg.boxes _ b0 h2).ren true df rfl (fun _ _ _ _=>rfl) (fun b o _ h=>hsub b o h) (.inr fun _=>rfl) fun i _ b hb=>hμ i b hb
 ·simp_all [ata,df,R_]
 ·simp only [ata] at h1 h2
  split at h1
  ·rename_i q1
   split at h2
   ·rename_i q2
    injection h1 with h1
    injection h2 with h2
    have:=hg.bnd.inj _ _ q1.2 q2.2 (h1.trans h2.symm)
    omega
   grind
  grind
 ·simp only [ata] at hk
  split at hk
  ·rename_i h1
   injection hk with hk
   subst hk
   exact ⟨hg.bnd.lt _ h1.2,.inl (arH.2 (.inl (art.2 ⟨_,List.mem_range.2 h1.2,rfl⟩)))⟩
  grind
 ·obtain ⟨h1,h2⟩:=ho i ob h
  have hp: ∃e l,args[i-2000000]? =some (.fresh e l)/\ob=⟨0,e,l⟩:=by
   grind [fi]
  obtain ⟨e,l,hp,rfl⟩:=hp
  have hO:ObOK X w (NB N0 boxes.length ν δ) (gB U boxes.length ν) e l (vs.getD (i-2000000) undef) .wr (δ (i-2000000)):=hg.args _ _ hp
  refine ⟨vs.getD (i-2000000) undef,by simp_all [ata], ?_⟩
  have hu:(gU args boxes).u i= .wr:=by
   unfold St.u gU
   simp only
   have hlook: ∀ (l:List (Nat×Ob U)) (n:Nat),cq (l.map fun x=>(x.1,Use.wr)) n=(cq l n).map fun _=>Use.wr:=by
    intro l n
    induction l with
    |nil=>rfl
    |cons x l ih=>
     grind [iD]
   rw [hlook]
   have h':cq (gV 0 args) i=some ⟨0,e,l⟩:=h
   grind
  have hD:mC args δ i=δ (i-2000000):=by grind [mC]
  rw [hu,hD]
  exact hO.turn (fun _ _=>rfl) (fun _ _ _ _=>rfl) (fun b o _ h=>hsub b o h)
 ·have hf:2000000<=i->fi args (i-2000000)=none:=by
   intro hi
   have h':cq (gV 0 args) i=none:=h
   grind [R8]
  grind [ata,mC]
 ·obtain ⟨a1,a2,_⟩:=wj h1
  obtain ⟨b1,b2,_⟩:=wj h2
  have:=hg.bnd.dinj _ _ _ a2 b2
  omega
 ·obtain ⟨a1,a2,_⟩:=wj h
  exact ⟨hg.bnd.dlt _ _ a2,.inl (arH.2 (.inr (List.mem_filterMap.2 ⟨_,List.mem_range.2 (hg.dom _ _ a2),a2⟩)))⟩
 ·obtain ⟨a1,a2,_⟩:=wj h1
  simp only [ata] at h2
  split at h2
  ·rename_i q
   injection h2 with h2
   exact hg.bnd.dν _ _ a2 _ q.2 h2
  grind
end
section
variable {U:Uni} {V:Env U} {P:Program} {X:Link V P} {K:cj U} {c:Ctx} {tm:Array Value} {w:World} {σ:St U} {g:Gh U} {D:Nat->Option Nat}
variable {r:MR U} {τ:St U} {gp:List Loc}
def mz (tmps:Array Value):ResultVar->Sem Value
 | .tmp t=>pure (tmps.getD t undef)
 | .cell a t=>do loadVar t (<-asAddr (tmps.getD a undef))
theorem ais (fn:Func) (tmps:Array Value):results fn tmps=(do
  let vs<-fn.results.mapM (mz tmps)
  pure (if h:vs.size=1 then vs[0] else .tuple vs)):=by
 rfl
theorem air (h:Sim X c tm w σ g D): ∀ (res:List ResultVar) {k:List (PV U)->M U} {fp:List Loc},(ry V res k).Rel K σ fp r τ gp->
  ∃ps us fp',(k ps).Rel K σ fp' r τ gp/\us.length=ps.length/\(∀ (j:Nat) p,ps[j]? =some p->Rep X w (c.N g D) g (us.getD j undef) p)/\(res.mapM (mz tm)).run P w= .ok us w:=by
 intro res
 induction res with
 |nil=>intro k fp hr;exact ⟨[],[],fp,hr,rfl,by simp,by simp⟩
 |cons x res ih=>
  intro k fp hr
  have step: ∀ {p:PV U} {v:Value} {fp1:List Loc},(ry V res fun vs=>k (p::vs)).Rel K σ fp1 r τ gp->Rep X w (c.N g D) g v p->(mz tm x).run P w= .ok v w->
    ∃ps us fp',(k ps).Rel K σ fp' r τ gp/\us.length=ps.length/\(∀ (j:Nat) p,ps[j]? =some p->Rep X w (c.N g D) g (us.getD j undef) p)/\((x::res).mapM (mz tm)).run P w= .ok us w:=by
   intro p v fp1 hr1 hp hv
   obtain ⟨ps,us,fp',h1,h2,h3,h4⟩:=ih hr1
   refine ⟨p::ps,v::us,fp',h1,by simp [h2],fun j q hq=> ?_,by simp_all⟩
   grind
  cases x with
  |tmp t=>exact step hr (h.regs t) (by rfl)
  |cell a t=>
   simp only [ry,M.Rel] at hr
   obtain ⟨x,fp',v,h1,h2,h3⟩:=LM (a:=⟨tm,[]⟩) h (h.regs a) hr
   refine step h1 h3 ?_
   have h2':=h2
   unfold Instr.loadAt at h2'
   simp only [mz]
   cases hu:tm.getD a undef with
   |pointer q=>
    rw [hu] at h2'
    cases q<;>simp_all [Instr.sureAddr,asAddr]
   |_=>rw [hu] at h2';simp [Instr.sureAddr] at h2'
theorem EB: ∀ (l:List Nat) {k:List (Nat×Box U)->M U} {fp:List Loc},(iq l k).Rel K σ fp r τ gp-> ∃bs fp',(k bs).Rel K σ fp' r τ gp/\bs.map (·.1)=l/\ ∀x∈bs,σ.b x.1=some x.2:=by
 intro l
 induction l<;>grind [iq,M.Rel]
theorem ac8: ∀ (n:Nat) (todo:List Nat) (acc:List (Nat×Box U)) {k:List (Nat×Box U)->M U} {fp:List Loc},(∀x∈acc,σ.b x.1=some x.2)->(lR n todo acc k).Rel K σ fp r τ gp->
  ∃bs fp',(k (acc++bs)).Rel K σ fp' r τ gp/\ ∀x∈acc++bs,σ.b x.1=some x.2:=by
 intro n
 induction n with
 |zero=>intro todo acc k fp _ hr;exact hr.elim
 |succ n ih=>
  intro todo acc k fp hacc hr
  cases todo with
  |nil=>exact ⟨[],fp,by rw [arE];exact hr,by grind⟩
  |cons id todo=>
   simp only [lR] at hr
   split at hr<;>grind [M.Rel]
theorem RepG.lessN {N N':aN} {v:Value} {Do:Option Nat} {p:PV U} (h:RepG X w N g v Do p) (hN: ∀b o,N' b o->N b o):RepG X w N' g v Do p:=by
 by_cases hp:p.notFresh=true
 ·have:=(h.rep hp).mono X (w':=w) (N':=N') (g':=g) (fun _ _ _ _=>rfl) (fun b o _ hn=>hN b o hn) (Gh.le.refl g)
  cases p<;>first|exact this|cases hp
 ·cases p with
  |fresh e l=>exact ObOK.mono h (fun _ _=>rfl) (fun _ _ _ _=>rfl) (fun b o _ hn=>hN b o hn) (Gh.le.refl g)
  |_=>exact absurd rfl hp
theorem Jr {w0:World} {N0:aN} {n m:Nat} {ν:Nat->Nat} {δ:Nat->Option Nat} {ο:Nat->Array Value} (hc:CtxOf c w0 N0 n m ν δ ο) (hdom: ∀j b,δ j=some b->j<m)
  (h:Sim X c tm w σ g D) {bs:List (Nat×Box U)} {qs:List (PV U)} {vs:Array Value} {ν':Nat->Nat} {δ':Nat->Option Nat} {keep:Bool} {N1:aN}
  (hkeys: ∃more,bs.map (·.1)=cK (df 0) n++more) (hnd:(bs.map (·.1)).Nodup) (hν: ∀ (k:Nat) id,(bs.map (·.1))[k]? =some id->g.μ id=some (ν' k))
  (hδ: ∀j b,δ' j=some b-> ∃i,D i=some b)
  (hg:Given X w vs N1 ν' δ' ο qs (bs.map fun b=>b.2.ren keep (aq0 (bs.map (·.1)))))
  (hN1:NB N1 bs.length ν' δ'=c.N g D):
  Back X w0 w N0 ν δ ο n m ν' δ' (bs.map fun b=>b.2.ren keep (aq0 (bs.map (·.1))))/\ ∀b o,(NB N0 bs.length ν' δ') b o->(NB N1 bs.length ν' δ') b o:=by
 obtain ⟨more,hmore⟩:=hkeys
 obtain ⟨c0,cN,cbl,cfix,cother,hb0,coo⟩:=hc
 have hlen:bs.length=n+more.length:=by have:=congrArg List.length hmore;grind [AB]
 have hext: ∀i,i<n->(bs.map (·.1))[i]? =some (df i):=by
  grind [NO,df]
 have hold: ∀i,i<n->ν' i=ν i:=by
  intro i hi
  have h1:=hν i _ (hext i hi)
  rcases h.fix _ _ h1 with h2|⟨h2,_⟩<;>grind
 have hμν: ∀i,i<n->g.μ (df i)=some (ν i):=fun i hi=>by grind
 have hget: ∀k,k<bs.length-> ∃id,(bs.map (·.1))[k]? =some id/\g.μ id=some (ν' k):=fun k hk=>⟨_,arN (by grind),hν k _ (arN (by grind))⟩
 have hsub: ∀b o,(NB N0 bs.length ν' δ') b o->(NB N1 bs.length ν' δ') b o:=by
  intro b o hn
  rw [hN1]
  rcases hn with hn|⟨k,hk,rfl⟩|⟨j,hj⟩
  ·exact .inl (by grind)
  ·obtain ⟨id,_,hid⟩:=hget k hk
   exact .inr (.inl ⟨id,hid⟩)
  ·obtain ⟨i,hi⟩:=hδ j b hj
   exact .inr (.inr ⟨i,hi⟩)
 have hnew: ∀i,n<=i->i<bs.length->w0.heap.size<=ν' i:=by
  intro i hi hlt
  obtain ⟨id,h1,h2⟩:=hget i hlt
  rcases h.fix _ _ h2 with h3|⟨_,h3⟩<;>grind [List.getElem?_inj]
 have hdnew: ∀j b,δ' j=some b->w0.heap.size<=b\/ ∃i,δ i=some b:=by
  intro j b hj
  obtain ⟨i,hi⟩:=hδ j b hj
  rcases (h.dnew i b hi).2 with h1|h1
  ·rw [cbl] at h1
   rcases arH.1 h1 with h1|h1
   ·obtain ⟨k,hk,e⟩:=art.1 h1
    rw [List.mem_range] at hk
    subst e
    exact absurd (hμν k hk) (h.dbox i _ _ hi)
   grind
  grind
 have hl:(bs.map fun b=>b.2.ren keep (aq0 (bs.map (·.1)))).length=bs.length:=by simp
 have hgb:=hg.bnd
 rw [hl] at hgb
 have hex:Ext (avg n m ν δ) w0 w:=by have:=h.ext;grind
 refine ⟨⟨hex,by omega,hold,by grind,hdnew, ?_,fun k b hb=> ?_⟩,hsub⟩
 ·rw [hl]
  refine ⟨hgb.inj,hgb.lt,hgb.dlt,hgb.dinj,hgb.dν,fun b o hn=>⟨Nat.lt_of_lt_of_le (hb0.n0 b o hn).1 hex.size,fun i hi e=> ?_,fun j hj=> ?_⟩⟩
  ·by_cases hin:i<n
   ·exact (hb0.n0 b o hn).2.1 i hin (by grind)
   ·have:=hnew i (by omega) hi
    have:=(hb0.n0 b o hn).1
    omega
  ·rcases hdnew j b hj with h1|⟨i,h1⟩
   ·have:=(hb0.n0 b o hn).1;omega
   ·exact (hb0.n0 b o hn).2.2 i h1
 ·have:=hg.boxes k b hb
  rw [hl] at this ⊢
  exact this.mono rfl (fun _ _ _ _=>rfl) (fun b o _ hn=>hsub b o hn) (Gh.le.refl _)
end
section
variable {U:Uni} {V:Env U} {P:Program} {X:Link V P}
theorem RepG.ofAny {w:World} {N:aN} {g:Gh U} {v:Value} {Do:Option Nat} {p:PV U} (h:Rep X w N g v p):RepG X w N g v Do p:=by
 cases p<;>first|exact h|cases h
theorem RepR.ofG {w:World} {N:aN} {g:Gh U} {v:Value} {δ:Nat->Option Nat} {p:PV U} (h:RepG X w N g v (δ 0) p):RepR X w N g v δ p:=by
 cases p with
 |tuple ps=>
  cases (show Rep X w N g v (.tuple ps) from h) with
  |tuple vs _ hl hh=>exact ⟨vs,rfl,hl,fun j p hp=> .ofAny (hh j p hp)⟩
 |_=>exact h
theorem ait {fn:Func} {tmps:Array Value} {us:List Value} {w:World} (h:(fn.results.toList.mapM (mz tmps)).run P w= .ok us w):
  (results fn tmps).run P w= .ok (if h:us.toArray.size=1 then us.toArray[0] else .tuple us.toArray) w:=by
 simp_all [ais,Array.mapM_eq_mapM_toList]
variable {w0:World} {N0:aN} {n m:Nat} {ν:Nat->Nat} {δ:Nat->Option Nat} {K:cj U} {c:Ctx}
theorem aJh {w:World} {σ:St U} {g:Gh U} {N:aN} {hand:List Bool} {ps:List (PV U)} {us:List Value} {k:List (PV U)->M U} {fp gp:List Loc} {r:MR U} {τ:St U} (hl:us.length=ps.length) (hp: ∀ (j:Nat) p,ps[j]? =some p->Rep X w N g (us.getD j undef) p)
  (hr:(aAv hand ps k).Rel K σ fp r τ gp): ∃qs,(k qs).Rel K σ fp r τ gp/\us.length=qs.length/\ ∀ (j:Nat) p,qs[j]? =some p->Rep X w N g (us.getD j undef) p:=by
 unfold aAv at hr
 cases hb:aoy hand.length (ps.length+1) with
 |false=>grind
 |true=>
  rw [hb] at hr
  simp only [cond_true] at hr
  split at hr
  ·rename_i v
   split at hr
   ·rename_i v' hv
    refine ⟨[v'],hr,hl,fun j p hj=> ?_⟩
    cases j with
    |succ j=>simp at hj
    |zero=>
     simp at hj
     subst hj
     have h0:=hp 0 v rfl
     generalize us.getD 0 undef=u at h0
     unfold PV.asFull at hv
     split at hv
     ·injection hv with hv
      subst hv
      cases h0 with
      |sl A n c e l o val h1 h2 h3 h4 h5=>exact .sl A n c _ _ .full val h1 h2 (by omega) h4 h5
     all_goals grind
   ·exact hr.elim
  ·exact hr.elim
theorem rz {fn:Func} {tm:Array Value} {w:World} {σ:St U} {g:Gh U} {D:Nat->Option Nat} {ο:Nat->Array Value} (hc:CtxOf c w0 N0 n m ν δ ο) (hdom: ∀j b,δ j=some b->j<m) (h:Sim X c tm w σ g D)
  {keep:Bool} {hand:List Bool} {out:Out U} {τ:St U} {fp gp:List Loc} (hr:(jC V keep hand fn.results.toList n).Rel K σ fp (.out out) τ gp):
  ∃v,(results fn tm).run P w= .ok v w/\Ret X w0 N0 ν δ ο n m out (.returned v) w:=by
 unfold jC at hr
 obtain ⟨ps,us,fp1,hr1,hl1,hp1,hrun⟩:=air h _ hr
 obtain ⟨ps,hr1,hl1,hp1⟩:=aJh hl1 hp1 hr1
 obtain ⟨q1,σ1,D1,fp2,hr2,hF1,hl2,hq1⟩:=KL hand ps h (fun j=>us.getD j undef) hp1 hr1
 obtain ⟨bs0,fp3,hr3,hk0,hb0'⟩:=EB _ hr2
 obtain ⟨bs1,fp4,hr4,hb1⟩:=ac8 100 _ bs0 hb0' hr3
 obtain ⟨bs2,σ2,D2,fp5,hr5,hF2,hkeys,hb2⟩:=Ew _ hF1.sim (fun x hx=>hF1.sim.boxes x.1 x.2 (hb1 x hx)) hr4
 have h2:=hF2.sim
 obtain ⟨qs,σ3,fp6,G,δ',hr6,hl6,hSp,_,hδ,hδi,hqs⟩:=KR h2 hand q1 (fun j=>us.getD j undef) (.refl σ2) (fun j p hp=>hF2.rep (hq1 j p hp)) hr5
 cases hh:kj qs bs2 with
 |false=>rw [hh] at hr6;exact hr6.elim
 |true=>
 rw [hh] at hr6
 obtain ⟨e1,_,_⟩:=hr6
 injection e1 with e1
 subst e1
 have hb2: ∀x∈bs2,mG X w (c.N g D2) g ο x:=hc.oo▸hb2
 obtain ⟨ν',hν⟩:=NN hb2
 have hgd: ∀j,us.toArray.getD j undef=us.getD j undef:=fun j=>pT j (by simp)
 obtain ⟨hNB,hg⟩:=EE h2 keep (ο:=ο) (fun b hb=>by rw [<-hc.oo];exact c.oz b (arA h2.ext.size hb)) (vs:=us.toArray) (by grind) hb2 hh (fun j b hj=>by rw [hl6];exact hδ j b hj) hδi (fun j q hq=>by grind) hν (F:=fun b=>b.2.ren keep (aq0 (bs2.map (·.1)))) fun x hx g' t k hμ hbx=>hbx.ren keep _ rfl (fun _ _ _ _=>rfl) (fun _ _ _ h=>h) (.inl hx) hμ
 have hnd:=(Ac hh).2.2.1
 obtain ⟨hback,hsub⟩:=Jr hc hdom h2 ⟨bs1.map (·.1),by grind⟩ hnd hν (fun j b hj=>by grind) hg hNB
 suffices hR:RepR X w (NB N0 bs2.length ν' δ') (gB U bs2.length ν') (if h:us.toArray.size=1 then us.toArray[0] else .tuple us.toArray) δ' (mq (PV.renL keep (aq0 (bs2.map (·.1))) qs)) by
  have hrr:=ait hrun
  grind [Ret]
 have hbl:(bs2.map fun b=>b.2.ren keep (aq0 (bs2.map (·.1)))).length=bs2.length:=by simp
 have hargs: ∀ (j:Nat) p,(PV.renL keep (aq0 (bs2.map (·.1))) qs)[j]? =some p->RepG X w (NB N0 bs2.length ν' δ') (gB U bs2.length ν') (us.toArray.getD j undef) (δ' j) p:=fun j p hp=>by
  have:=hg.args j p hp
  rw [hbl] at this
  exact this.lessN hsub
 have hlr:(PV.renL keep (aq0 (bs2.map (·.1))) qs).length=us.length:=by grind [atk]
 generalize PV.renL keep (aq0 (bs2.map (·.1))) qs=rs at hargs hlr
 by_cases h1:us.toArray.size=1
 ·rw [dif_pos h1]
  have hu1:us.length=1:=by omega
  obtain ⟨p,rfl⟩: ∃p,rs=[p]:=by
   match rs,hlr with
   |[p],_=>simp
   |[],h=>grind
   |_::_::_,h=>grind
  have:=hargs 0 p rfl
  have hu:us.toArray.getD 0 undef=us.toArray[0]:=by grind
  rw [hu] at this
  exact .ofG this
 ·rw [dif_neg h1]
  have hone:mq rs= .tuple rs:=by
   match rs,hlr with
   |[],_=>rfl
   |[p],h=>grind
   |_::_::_,_=>rfl
  rw [hone]
  exact ⟨us.toArray,rfl,by grind,hargs⟩
theorem F0 {tm:Array Value} {w:World} {σ:St U} {g:Gh U} {D:Nat->Option Nat} {ο:Nat->Array Value} (hc:CtxOf c w0 N0 n m ν δ ο) (hdom: ∀j b,δ j=some b->j<m) (h:Sim X c tm w σ g D)
  {v:PV U} {val:Value} (hv:Rep X w (c.N g D) g val v) {out:Out U} {τ:St U} {fp gp:List Loc} (hr:(FZ v n).Rel K σ fp (.out out) τ gp):
  Ret X w0 N0 ν δ ο n m out (.panicked [{v:=val,recovered:=false}]) w:=by
 unfold FZ at hr
 obtain ⟨bs0,fp3,hr3,hk0,hb0'⟩:=EB _ hr
 obtain ⟨bs2,σ2,D2,fp5,hr5,hF2,hkeys,hb2⟩:=Ew _ h (fun x hx=>h.boxes x.1 x.2 (hb0' x hx)) hr3
 obtain ⟨q,σ3,D3,fp6,hr6,hF3,hq,_⟩:=nu v hF2.sim (hF2.rep hv) hr5
 cases hh:kj [q] bs2 with
 |false=>simp only [hh] at hr6;exact hr6.elim
 |true=>
 simp only [hh] at hr6
 obtain ⟨e1,_,_⟩:=hr6
 injection e1 with e1
 subst e1
 have hb3: ∀x∈bs2,mG X w (c.N g D3) g ο x:=fun x hx=>by
  obtain ⟨k,hk,hbx⟩:=hb2 x hx
  rw [hc.oo] at hbx
  exact ⟨k,hk,hbx.mono rfl (fun _ _ _ _=>rfl) (fun b o _ hn=>by
   rcases hn with hn|hn|⟨i,hi⟩
   ·exact .inl hn
   ·exact .inr (.inl hn)
   ·exact .inr (.inr ⟨i,hF3.D i b hi⟩)) (Gh.le.refl g)⟩
 have hkk:bs2.map (·.1)=cK (df 0) n:=hkeys.trans hk0
 have hlen:bs2.length=n:=by grind [AB]
 have hν: ∀ (k:Nat) id,(bs2.map (·.1))[k]? =some id->g.μ id=some (ν k):=by
  intro k id hid
  obtain ⟨x,hx,rfl⟩:=art.1 (as2 hid)
  obtain ⟨kb,hk,_⟩:=hb3 x hx
  have hkn:k<n:=by grind
  rw [hkk,NO _ _ _ hkn] at hid
  injection hid with hid
  have hfix:c.fix x.1=some (ν k):=by
   rw [<-hid,<-hc.fix k hkn]
   rfl
  rcases h.fix _ _ hk with h2|⟨h2,_⟩<;>grind
 obtain ⟨hNB,hg⟩:=EE (G:=[]) (δ:=fun _=>none) hF3.sim false (ο:=ο) (fun b hb=>by rw [<-hc.oo];exact c.oz b (arA h.ext.size hb)) (vs:= #[val]) (by simp) hb3 hh (by simp) (by simp) (fun j q' hq'=>by
  cases j with
  |zero=>simp at hq';subst hq';exact .of hq
  |succ j=>simp_all) hν (F:=fun b=>b.2.ren false (aq0 (bs2.map (·.1)))) fun x hx g' t k hμ hbx=>hbx.ren false _ rfl (fun _ _ _ _=>rfl) (fun _ _ _ h=>h) (.inl hx) hμ
 obtain ⟨hback,hsub⟩:=Jr hc hdom hF3.sim ⟨[],by grind⟩ (Ac hh).2.2.1 hν (by simp) hg hNB
 refine ⟨by grind,val,rfl,hback, ?_⟩
 have hbl:(bs2.map fun b=>b.2.ren false (aq0 (bs2.map (·.1)))).length=bs2.length:=by simp
 have:=hg.args 0 _ rfl
 rw [hbl] at this
 have:=this.lessN hsub
 rw [hlen] at this
 have hf:(q.ren false (aq0 (bs2.map (·.1)))).notFresh=true:=by
  rw [Bk]
  cases q<;>first|rfl|cases hq
 exact this.rep hf
theorem QJ (hm:P.follows .mixedOrders=true) (hI:lf X) {S:Side U} (hS:S.rcv=none) (hpin:S.pin=fun _=>false) {R:Type} {C:Oracle U R} (hC:C.Tells (ci X)) {f:FuncId} {fn:Func} (hf:P.funcs[f]? =some fn)
  (hname:(fn.name== "runtime.NumGoroutine")=false) (hbody:fn.body.isNone=false) (hnt:fn.ntmps=S.nt) (hlow:S.nt<=1000000) {args:List (PV U)} {boxes:List (Box U)} (hargs:args.length<=S.nt)
  {ann:Nat->Option Ann} {fuel:Nat} {keep:Bool} {hand:List Bool} {κ:Out U->Option R} {x:R} (h:rC V S C ann fuel keep hand fn args boxes κ=some x): ∃out,κ out=some x/\ci X f args boxes out:=by
 obtain ⟨code,hcode⟩: ∃code,fn.body=some code:=by
  cases hb:fn.body<;>grind
 unfold rC atJ at h
 rw [hcode] at h
 obtain ⟨e,τ,hbig,hk⟩:=Bv (ci X) V S ann hC fuel code h
 have key: ∀ {M:M U} {out:Out U} {τ0:St U} {gp:List Loc},M.Rel (ci X) τ [] (.out out) τ0 gp->(∀ (w:World) (vs:Array Value) (N0:aN) (ν:Nat->Nat) (δ:Nat->Option Nat) (ο:Nat->Array Value) (hg:Given X w vs N0 ν δ ο args boxes),
   Lands X (gm w N0 boxes.length args.length ν δ ο hg.oz S.nt hlow hg.bnd X.gblk hg.glob) [] e τ (bodyPost P fn (Ret X w N0 ν δ ο boxes.length args.length out)))->ci X f args boxes out:=by
  intro M out τ0 gp _ hl
  refine ⟨⟨fn,hf,hname,hbody⟩,fun w vs N0 ν δ ο hg=> ?_⟩
  suffices hgoal:Calls P f vs w (Ret X w N0 ν δ ο boxes.length args.length out) from hgoal.mono fun e w h=>Ret.full h
  refine calls_of_wp hf hcode ?_
  have hs:=BO hg hargs hlow
  rw [hnt]
  exact oX hm (oi hI hS fun d hd=>by grind) rfl hbig _ w _ _ _ hs (hl w vs N0 ν δ ο hg)
 cases e with
 |exit id=>cases hk
 |normal=>
  obtain ⟨r,τ0,τ1,gp,hr,ht,hfin⟩:=gx hC _ hk (St.eqv.refl τ)
  cases r with
  |out o=>
   refine ⟨o,hfin,key hr fun w vs N0 ν δ ο hg a' w' g' D' hd hs=> ?_⟩
   obtain ⟨v,h1,h2⟩:=rz lc hg.dom hs hr
   exact ⟨hd,v,h1,h2⟩
  |_=>cases hfin
 |ret=>
  obtain ⟨r,τ0,τ1,gp,hr,ht,hfin⟩:=gx hC _ hk (St.eqv.refl τ)
  cases r with
  |out o=>
   refine ⟨o,hfin,key hr fun w vs N0 ν δ ο hg a' w' g' D' hd hs=> ?_⟩
   obtain ⟨v,h1,h2⟩:=rz lc hg.dom hs hr
   exact ⟨hd,v,h1,h2⟩
  |_=>cases hfin
 |panic v=>
  obtain ⟨r,τ0,τ1,gp,hr,ht,hfin⟩:=gx hC _ hk (St.eqv.refl τ)
  cases r with
  |out o=>
   refine ⟨o,hfin,key hr fun w vs N0 ν δ ο hg a' w' g' D' hd hs val hval=> ?_⟩
   exact ⟨hd,F0 lc hg.dom hs hval hr⟩
  |_=>cases hfin
end
section
variable {U:Uni} {R:Type} (V:Env U) (S:Side U) (C:Oracle U R) (ann:Nat->Option Ann) (fuel:Nat)
def Qq (o:Oper):Option Tmp:=
 match o.dst,o.op,o.guard with
 |some d,.call c,.none=>match c.callee with
  | .builtin .recover=>some d
  |_=> .none
 |_,_,_=> .none
def QL (v:PV U):Code->St U->(Ex U->St U->Option R)->Option R
 | .seq (.region _ ops draw) b,σ,κ=>match ops.toList with
  |o::more=>match Qq o with
   |some d=>bif !draw&&(Nat.blt d S.nt&&more.all (bq S.nt)) then rD V S C ops.toList more [] (σ.setR d v) fun
     | .normal,σ',_=>run V S C ann fuel b σ' κ
     |_,_,_=> .none
    else .none
   | .none=> .none
  |[]=> .none
 |_,_,_=> .none
def G5 (keep:Bool) (hand:List Bool) (fn:Func) (v:PV U) (args:List (PV U)) (boxes:List (Box U)) (κ:Out U->Option R):Option R:=
 QL V S C ann fuel v (atJ fn) (gU args boxes) (kF V C keep hand fn boxes.length κ)
def D4:List Oper->Option (Oper×Tmp)
 |[o,q]=>match o.dst,o.guard,q.dst,q.op,q.guard with
  |some m,.none,.none,.defer c,.none=>match c.callee with
   | .value (.tmp n)=>bif aoy m n&&c.args.isEmpty then some (o,n) else .none
   |_=> .none
  |_,_,_,_,_=> .none
 |_=> .none
def PV.pinned:PV U->Bool
 | .ptr id _=>arq 1000000 id
 |_=>false
def oD:Code->St U->(Ex U->St U->Option R)->(FuncId->List (PV U)->Ex U->St U->Option R)->Option R
 | .seq a b,σ,κ0,κ1=>match a with
  | .region id ops draw=>match D4 ops.toList with
   |some (o,n)=>bif !draw&&bq S.nt o then (bL V S o).cps C σ [] fun
     | .done,σ',_=>match σ'.r n with
      | .func h [] caps=>bif caps.all PV.pinned then run V {S with pin:=fun _=>false} C ann fuel b σ' (κ1 h caps) else .none
      |_=> .none
     |_,_,_=> .none
    else .none
   | .none=>run V S C ann fuel (.region id ops draw) σ fun
    | .normal,σ'=>oD b σ' κ0 κ1
    |e,σ'=>κ0 e σ'
  |a=>run V S C ann fuel a σ fun
   | .normal,σ'=>oD b σ' κ0 κ1
   |e,σ'=>κ0 e σ'
 |_,_,_,_=> .none
def kD (Cd:PV U->Oracle U R) (keep:Bool) (hand:List Bool) (fn:Func) (nb:Nat) (κ:Out U->Option R) (h:FuncId) (caps:List (PV U)):Ex U->St U->Option R
 | .normal,σ=>(iq (PV.idsL caps) fun _=>iV (fun _=>0) (fun _=>[]) [] .none (.func h [] caps) []).cps (Cd .nilIface) σ [] fun
  | .done,σ',_=>(jC V keep hand fn.results.toList nb).cps C σ' [] (fin κ)
  |_,_,_=> .none
 | .ret,σ=>(iq (PV.idsL caps) fun _=>iV (fun _=>0) (fun _=>[]) [] .none (.func h [] caps) []).cps (Cd .nilIface) σ [] fun
  | .done,σ',_=>(jC V keep hand fn.results.toList nb).cps C σ' [] (fin κ)
  |_,_,_=> .none
 | .panic v,σ=>match v with
  | .iface t (.int k n)=>(iq (PV.idsL caps) fun _=>iV (fun _=>0) (fun _=>[]) [] .none (.func h [] caps) []).cps (Cd (.iface t (.int k n))) σ [] fun
   | .done,σ',_=>(jC V keep hand fn.results.toList nb).cps C σ' [] (fin κ)
   |_,_,_=> .none
  |_=> .none
 | .exit _,_=> .none
def Lz:Code->List Bool->List (St U->Option R)->(Nat->Option Ann)->(Ex U->St U->Option R)->(FuncId->List (PV U)->Ex U->St U->Option R)->Ex U->St U->Option R
 | .seq a b,false::p,rs,an,κ0,κ1=>kn V S C ann fuel a p rs an fun
  | .normal,σ'=>oD V S C ann fuel b σ' κ0 κ1
  |e,σ'=>κ0 e σ'
 | .seq _ b,true::p,rs,an,κ0,κ1=>Lz b p rs an κ0 κ1
 |_,_,_,_,κ0,_=>κ0
def G4 (Cd:PV U->Oracle U R) (keep:Bool) (hand:List Bool) (fn:Func) (args:List (PV U)) (boxes:List (Box U)) (κ:Out U->Option R):Option R:=
 oD V S C ann fuel (atJ fn) (gU args boxes) (kF V C keep hand fn boxes.length κ) (kD V C Cd keep hand fn boxes.length κ)
end
section
variable {U:Uni} {V:Env U} {P:Program} {X:Link V P}
inductive RcvOK:PV U->FrameMode->FrameMode->Prop
 |nil:RcvOK .nilIface .returning .returning
 |err (t:TypeId) (k:IntKind) (n:Int):RcvOK (.iface t (.int k n)) (.panicking [{v:= .iface t (.int k n),recovered:=false}]) (.panicking [{v:= .iface t (.int k n),recovered:=true}])
def jM (P:Program) (u u':FrameMode):FuncId->Array Value->World->(Ending->World->Prop)->Prop:=fun f vs w R=>CallsD P f vs u w fun e u2 w'=>u2=u'/\R e w'
theorem alr {ops:Array Oper} {cs:List Frame} {Q:Exit->Act->List Frame->World->Prop} (hQ: ¬LetsOut (fun e a' w'=>Q e a' cs w')): ∀ (l:List Nat) (a:Act) (w:World),wpOps P ops (fun e a' w'=>Q e a' cs w') l a w->wpOpsS P ops Q l a cs w:=by
 intro l
 induction l with
 |nil=>intro a w h;exact h
 |cons i l ih=>
  intro a w h
  simp only [wpOps,wpOpsS] at h ⊢
  cases ho:ops[i]? with
  |none=>grind
  |some o=>
   rw [ho] at h
   simp only at h ⊢
   split
   ·rename_i hw
    rw [if_pos hw] at h
    have h:=h.resolve_right fun h=>hQ h.2
    have h:=Oper.wp_mono ih h
    unfold Oper.wp at h
    split
    ·rename_i w' hrun
     rw [hrun] at h
     exact h.elim
    simp_all
   grind
theorem aiz (hm:P.follows .mixedOrders=true) (hI:lf X) {S:Side U} (hS:S.rcv=none) (hpin:S.pin=fun _=>false) {R:Type} {C:Oracle U R} (hC:C.Tells (ci X)) {f:FuncId} {fn:Func} (hf:P.funcs[f]? =some fn)
  (hname:(fn.name== "runtime.NumGoroutine")=false) (hbody:fn.body.isNone=false) (hnt:fn.ntmps=S.nt) (hlow:S.nt<=1000000) {v:PV U} {u u':FrameMode} (hv:RcvOK v u u') {args:List (PV U)} {boxes:List (Box U)} (hargs:args.length<=S.nt)
  {ann:Nat->Option Ann} {fuel:Nat} {keep:Bool} {hand:List Bool} {κ:Out U->Option R} {x:R} (h:G5 V S C ann fuel keep hand fn v args boxes κ=some x): ∃out,κ out=some x/\jS X (jM P u u') f args boxes out:=by
 obtain ⟨code,hcode⟩: ∃code,fn.body=some code:=by
  cases hb:fn.body<;>grind
 unfold G5 atJ at h
 rw [hcode] at h
 simp only at h
 unfold QL at h
 split at h
 case h_2=>cases h
 rename_i id ops draw b
 split at h
 case h_2=>cases h
 rename_i o more hops
 split at h
 case h_2=>cases h
 rename_i d hrec
 cases hc:(!draw&&(Nat.blt d S.nt&&more.all (bq S.nt))) with
 |false=>grind
 |true=>
 rw [hc] at h
 simp only [cond_true] at h
 simp only [anZ,Bool.not_eq_true'] at hc
 obtain ⟨hdraw,hd,hall⟩:=hc
 subst hdraw
 have hd:d<S.nt:=by simp_all
 unfold Qq at hrec
 obtain ⟨dst,op,ty,pos,after,gd⟩:=o
 simp only at hrec
 split at hrec
 case h_2=>simp_all
 rename_i d0 cl
 split at hrec
 case h_2=>simp_all
 rename_i hcl
 injection hrec with hrec
 subst hrec
 obtain ⟨e1,fps,τ0,τ1,hops1,ht1,hk1⟩:=QK (ci X) V S hC ops.toList more h (St.eqv.refl _)
 cases e1 with
 |exit id=>cases hk1
 |ret=>cases hk1
 |panic v=>cases hk1
 |normal=>
 simp only at hk1
 obtain ⟨e,τ,hbig,hk⟩:=Bv (ci X) V S ann hC fuel b hk1
 have hsz:ops.size=more.length+1:=by have:=congrArg List.length hops;omega
 have key: ∀ {out:Out U},(∀ (w:World) (vs:Array Value) (N0:aN) (ν:Nat->Nat) (δ:Nat->Option Nat) (ο:Nat->Array Value) (hg:Given X w vs N0 ν δ ο args boxes),
   Lands X (gm w N0 boxes.length args.length ν δ ο hg.oz S.nt hlow hg.bnd X.gblk hg.glob) [] e τ (bodyPost P fn (Ret X w N0 ν δ ο boxes.length args.length out)))->jS X (jM P u u') f args boxes out:=by
  intro out hl
  refine ⟨⟨fn,hf,hname,hbody⟩,fun w vs N0 ν δ ο hg=> ?_⟩
  suffices hgoal:jM P u u' f vs w (Ret X w N0 ν δ ο boxes.length args.length out) from CallsD.mono hgoal fun e u2 w2 h=>⟨h.1,Ret.full h.2⟩
  refine callsD_of_wpS hf hcode fun c₀ cs hu=> ?_
  have hs:=BO hg hargs hlow
  rw [hnt]
  have hl:=hl w vs N0 ν δ ο hg
  generalize hcx:gm w N0 boxes.length args.length ν δ ο hg.oz S.nt hlow hg.bnd X.gblk hg.glob=c at hs hl
  have hcnt:c.nt=S.nt:=by rw [<-hcx];rfl
  have hOS:mV X (ci X) S c:=oi hI hS fun d hd=>by grind
  obtain ⟨val,cs2,hrv,hrep⟩: ∃val cs2,(match recoverD (c₀::cs) with|some (v,cs')=>v=val/\cs'=cs2|none=>val= .nilIface/\cs2=c₀::cs)/\(∃c1:Frame,cs2={c₀ with mode:=u'}::cs)/\ ∀ (w:World) (N:aN) (g:Gh U),Rep X w N g val v:=by
   cases hv with
   |nil=>
    refine ⟨.nilIface,c₀::cs, ?_,⟨c₀, ?_⟩,fun _ _ _=> .nilIface⟩
    ·simp [recoverD,hu]
    ·rw [<-hu]
   |err t k n=>
    refine ⟨.iface t (.int k n),_, ?_,⟨c₀,rfl⟩,fun _ _ _=> .iface _ _ _ (.int _ _)⟩
    simp [recoverD,hu]
  obtain ⟨⟨_,hcs2⟩,hrep⟩:=hrep
  refine wpS_seq (wpS_region ?_)
  rw [hsz,List.range_eq_range',List.range'_succ]
  have h0:ops[0]? =some ⟨some d0,.call cl,ty,pos,after,none⟩:=by rw [<-Array.getElem?_toList,hops];rfl
  simp only [wpOpsS,h0]
  have hrun:(execOp (Act.eval ⟨vs++Array.replicate (S.nt-vs.size) undef,[]⟩) ⟨some d0,.call cl,ty,pos,after,none⟩).run P w= .ok .recover w:=by
   simp_all [QO,builtin]
  rw [if_pos (by rfl),hrun]
  simp only
  have hnext:wpOpsS P ops (Exit.thenS (b.wpS P (bodyPostS P fn c₀ cs fun e u2 w'=>u2=u'/\Ret X w N0 ν δ ο boxes.length args.length out e w')) (bodyPostS P fn c₀ cs fun e u2 w'=>u2=u'/\Ret X w N0 ν δ ο boxes.length args.length out e w')) (List.range' (0+1) more.length)
    (Act.put ⟨vs++Array.replicate (S.nt-vs.size) undef,[]⟩ (some d0) val) cs2 w:=by
   have hs1:=hs.put (d:=d0) (by grind) (hrep w _ _)
   have hLO: ∀ {next:Act->List Frame->World->Prop},¬LetsOut (fun e a' w'=>Exit.thenS next (bodyPostS P fn c₀ cs fun e u2 w'=>u2=u'/\Ret X w N0 ν δ ο boxes.length args.length out e w') e a' cs2 w'):=by
    rintro next ⟨a',w',u2,_,hq⟩
    exact hq
   refine alr hLO _ _ _ ?_
   refine Ur hOS more 1 _ w _ _ _ fps (by grind) (by grind) hs1 hops1 ?_
   intro a2 w2 g2 D2 hd2 hs2
   simp only [Exit.thenS]
   refine wpS_of_wp (oX hm hOS hcnt hbig a2 w2 g2 D2 _ (hs2.eqv ht1) ?_)
   intro a3 w3 g3 D3 hd3 hs3
   have hd0:a3.defers=[]:=hd3.trans hd2
   have hb:=hl a3 w3 g3 D3 hd0 hs3
   rw [hcs2]
   cases e with
   |normal=>obtain ⟨q1,v1,q2,q3⟩:=hb;exact ⟨q1,u',rfl,v1,q2,rfl,q3⟩
   |ret=>obtain ⟨q1,v1,q2,q3⟩:=hb;exact ⟨q1,u',rfl,v1,q2,rfl,q3⟩
   |exit id=>exact hb.elim
   |panic pv=>intro val' hval';obtain ⟨q1,q3⟩:=hb val' hval';exact ⟨q1,u',rfl,rfl,q3⟩
  grind
 cases e with
 |exit id=>cases hk
 |normal=>
  obtain ⟨r,τ0,τ1,gp,hr,ht,hfin⟩:=gx hC _ hk (St.eqv.refl τ)
  cases r with
  |out o=>
   refine ⟨o,hfin,key fun w vs N0 ν δ ο hg a' w' g' D' hd hs=> ?_⟩
   obtain ⟨v,h1,h2⟩:=rz lc hg.dom hs hr
   exact ⟨hd,v,h1,h2⟩
  |_=>cases hfin
 |ret=>
  obtain ⟨r,τ0,τ1,gp,hr,ht,hfin⟩:=gx hC _ hk (St.eqv.refl τ)
  cases r with
  |out o=>
   refine ⟨o,hfin,key fun w vs N0 ν δ ο hg a' w' g' D' hd hs=> ?_⟩
   obtain ⟨v,h1,h2⟩:=rz lc hg.dom hs hr
   exact ⟨hd,v,h1,h2⟩
  |_=>cases hfin
 |panic v=>
  obtain ⟨r,τ0,τ1,gp,hr,ht,hfin⟩:=gx hC _ hk (St.eqv.refl τ)
  cases r with
  |out o=>
   refine ⟨o,hfin,key fun w vs N0 ν δ ο hg a' w' g' D' hd hs val hval=> ?_⟩
   exact ⟨hd,F0 lc hg.dom hs hval hr⟩
  |_=>cases hfin
end
end Go.Proofs.YtgmmefmmnakbpaaGreatDoor.PI
