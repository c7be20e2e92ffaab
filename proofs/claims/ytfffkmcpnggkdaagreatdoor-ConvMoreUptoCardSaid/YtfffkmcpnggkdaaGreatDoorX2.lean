/- Part 2 of a proof; sources: wip/. -/
import Derived.Test.YtfffkmcpnggkdaaGreatDoorX1
import Derived.Test.YtfffkmcpnggkdaaGreatDoorProg
import Derived.KernelRfl
open Bool renaming and_eq_true→qk,not_false→sV,not_true→va
open ByteArray renaming empty→pf
open Go.IntKind renaming wrap→ot
open Int renaming toNat→zk,toNat_natCast→Ej
open List renaming all_eq_true→xo,append_nil→xS,length_append→F6,length_cons→uN,mem_append→xN,mem_cons→xF,mem_map→xl,nil_append→zg,range→BF
open Nat renaming beq→qC,le_trans→bu
open Option renaming bind→oa,bind_some→ql
set_option linter.unusedVariables false
set_option linter.unusedSimpArgs false
namespace Go.Proofs.YtfffkmcpnggkdaaGreatDoor
set_option maxRecDepth 100000
namespace PI
open Go
section
variable {U:sZ} {V:Env U} {P:Program} {X:qB V P}
theorem Fe {fn:Func} {w0:World} {N0:aN} {n m:Nat} {ν:Nat->Nat} {δ:Nat->Option Nat} {M:Ctx} {ο:Nat->Array Value} (hc:xE M w0 N0 n m ν δ ο) (O: ∀j b,δ j=some b->j<m) {v:PV U} {u u':FrameMode} (hv:BW v u u')
  {E:FuncId} {caps:List (PV U)} {us:Array Value} (T:Ca M caps us) {τ W:St U} {r:MR U} {Y:St U} {gp a7:List Loc} {K:cj U} {pX:Bool} {hand:List Bool} {out:Out U} {a8:St U}
  (ad:(iq (PV.idsL caps) fun _=>iV (fun _=>0) (fun _=>[]) [] none (.func E [] caps) []).Rel (jS X (jM P u u')) τ [] r Y gp) (hr:r= .done) (ht:Y.eqv W) (ao:(jC V pX hand fn.results.toList n).Rel K W [] (.out out) a8 a7)
  {a:Act} {w:World} {g:Gh U} {D:Nat->Option Nat} (hs:qy X M a.tmps w τ g D):
  Leaves P fn a.tmps (BV X w0 N0 ν δ ο n m out) [{target:= .fn (.func E) us,args:= #[]}] u w:=by
 obtain ⟨bs,b0,F,I,bc⟩:=EB _ ad
 have hR:pw X w (M.N g D) g (.func (.func E) #[] us) (.func E [] caps):=by
  refine .func E [] caps #[] us rfl T.1 (by simp) fun j p hp=> ?_
  obtain ⟨id,off,b,rfl,B,bf⟩:=T.2 j p hp
  rw [bf]
  refine .ptr id off b ?_
  have ax:id∈PV.idsL caps:=fj hp id (by simp [PV.ids])
  rw [<-I] at ax
  obtain ⟨x,hx,rfl⟩:=xl.1 ax
  obtain ⟨k,hk,_⟩:=hs.boxes x.1 x.2 (bc x hx)
  rcases hs.fix _ _ hk with h1|⟨h1,_⟩
  ·rw [B] at h1;injection h1 with h1;rw [h1];exact hk
  ·rw [B] at h1;cases h1
 obtain ⟨f,a0s,b1,bh,⟨b2,bn,q,z⟩,J⟩:=Jv (X:=X) (c:=M) (a:=a) (dst:=none) (o:=⟨none,.move (.const undef),0, "",#[],none⟩) (CP:=jM P u u') (xs:= #[])
  (next:=fun a2 L=>Leaves P fn a2.tmps (BV X w0 N0 ν δ ο n m out) [] .returning L) (Q:=fun _ _ _=>False)
  (fun {f vs w R R'} h hm=>CallsD.mono h fun e u2 L ⟨h1,h2⟩=>⟨h1,hm e L h2⟩) hs hR rfl (by simp) rfl rfl F
  ⟨fun _ a2 L g2 D2 _ bt=>by
   obtain ⟨v,h1,h2⟩:=rz hc O (bt.eqv ht) ao
   exact ⟨v,h1,h2⟩,fun v hv=>by rw [hr] at hv;cases hv⟩
 injection bh with e1 e2 e3
 injection e1 with e1
 subst e1;subst e2;subst e3
 have bz:u≠ .run:=by cases hv<;>simp
 refine leaves_cons bz (f:=E) (args:= #[]++us) (by simp only [invoke];exact QP bn q z _ w) ?_
 have A:CallsD P E (#[]++us) u w fun e u2 w'=>u2=u'/\(match e,w' with
    | .returned v,az=>Leaves P fn (a.put none v).tmps (BV X w0 N0 ν δ ο n m out) [] .returning az
    | .panicked chain,az=>False
    | .outgrown,_=>LetsOut (fun _ _ _=>False)):=by
  have:=J
  simp only [Array.append_empty] at this
  exact this.mono fun e u2 L ⟨h1,h2⟩=>⟨h1,by cases e<;>exact h2⟩
 refine A.mono fun e u2 L ⟨h1,h2⟩=> ?_
 subst h1
 cases e with
 |returned rv=>
  simp only [Act.put] at h2
  have a6:settle u2= .returning:=by cases hv<;>rfl
  simp only [a6]
  exact h2
 |panicked chain=>exact h2.elim
 |outgrown=>obtain ⟨_,_,h⟩:=h2;exact h.elim
theorem aix (hm:P.follows .mixedOrders=true) (hI:RT X) {S:s8 U} (hS:S.nI=none) {R:Type} {C:sP U R} (hC:C.Tells (ci X)) {Cd:PV U->sP U R} (a7: ∀v u u',BW v u u'->(Cd v).Tells (jS X (jM P u u')))
  {f:FuncId} {fn:Func} (hf:P.funcs[f]? =some fn)
  (T:(fn.name== "runtime.NumGoroutine")=false) (A:fn.body.isNone=false) (ax:fn.ntmps=S.nt) (E:S.nt<=1000000) {args:List (PV U)} {boxes:List (pA U)} (W:args.length<=S.nt) (a6:boxes.length<=1000000)
  {xy:Nat->Option BX} {fuel:Nat} {pX:Bool} {hand:List Bool} {κ:Out U->Option R} {x:R} (h:G4 V S C xy fuel Cd pX hand fn args boxes κ=some x): ∃out,κ out=some x/\ci X f args boxes out:=by
 obtain ⟨code,I⟩: ∃code,fn.body=some code:=by
  cases hb:fn.body with
  |none=>rw [hb] at A;cases A
  |some code=>exact ⟨code,rfl⟩
 unfold G4 Mb at h
 rw [I] at h
 have ad: ∀ {w:World} {vs:Array Value} {N0:aN} {ν:Nat->Nat} {δ:Nat->Option Nat} {ο:Nat->Array Value} (q:uL X w vs N0 ν δ ο args boxes),zf S (gm w N0 boxes.length args.length ν δ ο q.oz S.nt E q.iP X.jY q.gF):=by
  intro w vs N0 ν δ ο q d _
  simp only [gm]
  rw [if_neg (by omega)]
 rcases aiy (X:=X) hm hI hS E hC code h with ⟨e,τ,he,hk,hB⟩|⟨hh,caps,e,τ,hk,hB⟩
 ·have key: ∀ {out:Out U},(∀ (w:World) (vs:Array Value) (N0:aN) (ν:Nat->Nat) (δ:Nat->Option Nat) (ο:Nat->Array Value) (q:uL X w vs N0 ν δ ο args boxes),
    uK X (gm w N0 boxes.length args.length ν δ ο q.oz S.nt E q.iP X.jY q.gF) [] e τ (bodyPost P fn (BV X w N0 ν δ ο boxes.length args.length out)))->ci X f args boxes out:=by
   intro out hl
   refine ⟨⟨fn,hf,T,A⟩,fun w vs N0 ν δ ο q=>Calls.mono (calls_of_wp (R:=BV X w N0 ν δ ο boxes.length args.length out) hf I ?_) fun e w h=>BV.full h⟩
   have hs:=BO q W E
   rw [ax]
   exact hB _ (ad q) rfl _ w _ _ _ hs (hl w vs N0 ν δ ο q)
  cases e with
  |exit id=>cases hk
  |normal=>exact absurd rfl he
  |ret=>
   obtain ⟨r,B,z,gp,hr,ht,F⟩:=LV hC _ hk (St.eqv.refl τ)
   cases r with
   |out o=>
    refine ⟨o,F,key fun w vs N0 ν δ ο q a' w' g' D' hd hs=> ?_⟩
    obtain ⟨v,h1,h2⟩:=rz lc q.hX hs hr
    exact ⟨hd,v,h1,h2⟩
   |_=>cases F
  |panic v=>
   obtain ⟨r,B,z,gp,hr,ht,F⟩:=LV hC _ hk (St.eqv.refl τ)
   cases r with
   |out o=>
    refine ⟨o,F,key fun w vs N0 ν δ ο q a' w' g' D' hd hs val Y=> ?_⟩
    exact ⟨hd,F0 lc q.hX hs Y hr⟩
   |_=>cases F
 ·have key: ∀ {out:Out U},(∀ (w:World) (vs:Array Value) (N0:aN) (ν:Nat->Nat) (δ:Nat->Option Nat) (ο:Nat->Array Value) (q:uL X w vs N0 ν δ ο args boxes) (us:Array Value) (c':Ctx),xE c' w N0 boxes.length args.length ν δ ο->Ca c' caps us->
    uK X c' [{target:= .fn (.func hh) us,args:= #[]}] e τ (bodyPostD P fn (BV X w N0 ν δ ο boxes.length args.length out)))->ci X f args boxes out:=by
   intro out hl
   refine ⟨⟨fn,hf,T,A⟩,fun w vs N0 ν δ ο q=>Calls.mono (calls_of_wp_defers (R:=BV X w N0 ν δ ο boxes.length args.length out) hf I ?_) fun e w h=>BV.full h⟩
   have hs:=BO q W E
   rw [ax]
   exact hB _ (ad q) rfl _ w _ _ _ hs rfl fun us c' J _ L=>hl w vs N0 ν δ ο q us c' (J _ _ _ _ _ _ _ lc) L
  have fin: ∀ {v:PV U} {u u':FrameMode},BW v u u'->(iq (PV.idsL caps) fun _=>iV (fun _=>0) (fun _=>[]) [] none (.func hh [] caps) []).cps (Cd v) τ [] (fun| .done,σ',_=>(jC V pX hand fn.results.toList boxes.length).cps C σ' [] (Go.Proofs.YtfffkmcpnggkdaaGreatDoor.PI.fin κ)|_,_,_=>none)=some x->
    ∃ (out:Out U) (r:MR U) (B z M:St U) (gp O:List Loc),κ out=some x/\(iq (PV.idsL caps) fun _=>iV (fun _=>0) (fun _=>[]) [] none (.func hh [] caps) []).Rel (jS X (jM P u u')) τ [] r B gp/\r= .done/\B.eqv z/\(jC V pX hand fn.results.toList boxes.length).Rel (ci X) z [] (.out out) M O:=by
   intro v u u' hv hk
   obtain ⟨r,B,z,gp,hr,ht,ao⟩:=LV (a7 v u u' hv) _ hk (St.eqv.refl τ)
   cases r with
   |raise v=>cases ao
   |out o=>cases ao
   |done=>
    obtain ⟨r',M,bc,O,a8,bf,az⟩:=LV hC _ ao (St.eqv.refl z)
    cases r' with
    |out o=>exact ⟨o,.done,B,z,M,gp,O,az,hr,rfl,ht,a8⟩
    |_=>cases az
  cases e with
  |exit id=>cases hk
  |normal=>
   obtain ⟨out,r,B,z,M,gp,O,h1,h2,h3,h4,h5⟩:=fin .nil hk
   refine ⟨out,h1,key fun w vs N0 ν δ ο q us c' J L a' w' g' D' hd hs=> ?_⟩
   simp only [bodyPostD,hd]
   exact Fe J q.hX .nil L h2 h3 h4 h5 hs
  |ret=>
   obtain ⟨out,r,B,z,M,gp,O,h1,h2,h3,h4,h5⟩:=fin .nil hk
   refine ⟨out,h1,key fun w vs N0 ν δ ο q us c' J L a' w' g' D' hd hs=> ?_⟩
   simp only [bodyPostD,hd]
   exact Fe J q.hX .nil L h2 h3 h4 h5 hs
  |panic v=>
   simp only [kD] at hk
   split at hk
   case h_2=>cases hk
   rename_i t k n'
   obtain ⟨out,r,B,z,M,gp,O,h1,h2,h3,h4,h5⟩:=fin (.err t k n') hk
   refine ⟨out,h1,key fun w vs N0 ν δ ο q us c' J L a' w' g' D' hd hs val Y=> ?_⟩
   simp only [bodyPostD,hd]
   cases Y with
   |iface _ u _ hu=>cases hu;exact Fe J q.hX (.err t k n') L h2 h3 h4 h5 hs
end
end PI
section
open Go PI
noncomputable section
noncomputable def f':ET->TypeId
 | .C=>69
 | .T=>27
 | .B=>62
 | .I=>3
 | .F=>23
 | .D=>51
 | .G=>50
 | .V=>183
noncomputable def pQ:ET->Nat
 | .C=>2
 | .T=>6
 | .B=>2
 | .I=>1
 | .F=>1
 | .D=>7
 | .G=>7
 | .V=>2
noncomputable def zQ:ET->Nat
 | .C=>8
 | .T=>104
 | .B=>48
 | .I=>8
 | .F=>24
 | .D=>120
 | .G=>120
 | .V=>32
noncomputable def zY (e:ET):Value:=((Tryz.prog.info? (f' e)).bind (·.zero)).getD undef
noncomputable def Ep (e:ET):Bool:=match Tryz.prog.info? (f' e) with
 |some i=>i.zero.isSome&&(qC i.size (pQ e)&&qC i.bytes (zQ e))&&qC (zY e).cells.size (pQ e)
 | .none=>false
theorem KA (e:ET):Ep e=true:=by cases e<;>kernel_rfl
theorem T7: ∀t r,wy t=some r->I9 Tryz.prog f' t r=true:=by
 intro t r h
 unfold wy at h
 split at h<;>first|(injection h with h;subst h;kernel_rfl)|cases h
theorem aeb: ∀t r e,wy t=some r->r.keys=some e->e= .C:=by
 intro t r e h hk
 unfold wy at h
 split at h<;>first|(injection h with h;subst h;cases hk;done)|(injection h with h;subst h;injection hk with hk;exact hk.symm)|cases h
theorem akU: ∀e cs y,T3 e cs=some y->cs.length=pQ e/\cs.all PV.isCell=true/\ ∀ (k:Nat) p,cs[k]? =some p-> ∃q,(Dg e y)[k]? =some q/\p.less q:=by
 have hC: ∀ {p:PU} {l},oO p=some l-> ∃o,p= .sl (U:=UU) ET.C l o:=by
  intro p l h;unfold oO at h;split at h<;>first|(injection h with h;subst h;exact ⟨_,rfl⟩)|cases h
 have hT: ∀ {p:PU} {l},sn p=some l-> ∃o,p= .sl (U:=UU) ET.T l o:=by
  intro p l h;unfold sn at h;split at h<;>first|(injection h with h;subst h;exact ⟨_,rfl⟩)|cases h
 have hB: ∀ {p:PU} {l},wJ p=some l-> ∃o,p= .sl (U:=UU) ET.B l o:=by
  intro p l h;unfold wJ at h;split at h<;>first|(injection h with h;subst h;exact ⟨_,rfl⟩)|cases h
 intro e cs y h
 cases e
 ·have h:I4 cs=some y:=h
  unfold I4 at h
  split at h
  case h_2=>cases h
  injection h with h;subst h
  refine ⟨rfl,rfl,fun k p hp=> ?_⟩
  match k,hp with
  |0,hp=>exact ⟨_,rfl,.inl (Option.some.inj hp).symm⟩
  |1,hp=>exact ⟨_,rfl,.inl (Option.some.inj hp).symm⟩
  |k+2,hp=>simp at hp
 ·have h:I7 cs=some y:=h
  unfold I7 at h
  split at h
  case h_2=>cases h
  split at h
  case h_2=>cases h
  rename_i h1 h2 x
  injection h with h;subst h
  obtain ⟨z,rfl⟩:=hC h1;obtain ⟨A,rfl⟩:=hT h2;obtain ⟨E,rfl⟩:=hB x
  refine ⟨rfl,rfl,fun k p hp=> ?_⟩
  match k,hp with
  |0,hp=>exact ⟨_,rfl,.inl (Option.some.inj hp).symm⟩
  |1,hp=>exact ⟨_,rfl,.inl (Option.some.inj hp).symm⟩
  |2,hp=>exact ⟨_,rfl,.inl (Option.some.inj hp).symm⟩
  |3,hp=>exact ⟨_,rfl,.inr ⟨_,_,_,(Option.some.inj hp).symm,rfl⟩⟩
  |4,hp=>exact ⟨_,rfl,.inr ⟨_,_,_,(Option.some.inj hp).symm,rfl⟩⟩
  |5,hp=>exact ⟨_,rfl,.inr ⟨_,_,_,(Option.some.inj hp).symm,rfl⟩⟩
  |k+6,hp=>simp at hp
 ·have h:I3 cs=some y:=h
  unfold I3 at h
  split at h
  case h_2=>cases h
  split at h
  case h_2=>cases h
  rename_i h1 h2
  injection h with h;subst h
  obtain ⟨z,rfl⟩:=hC h1;obtain ⟨A,rfl⟩:=hT h2
  refine ⟨rfl,rfl,fun k p hp=> ?_⟩
  match k,hp with
  |0,hp=>exact ⟨_,rfl,.inr ⟨_,_,_,(Option.some.inj hp).symm,rfl⟩⟩
  |1,hp=>exact ⟨_,rfl,.inr ⟨_,_,_,(Option.some.inj hp).symm,rfl⟩⟩
  |k+2,hp=>simp at hp
 ·have h:I6 cs=some y:=h
  unfold I6 at h
  split at h
  case h_2=>cases h
  injection h with h;subst h
  refine ⟨rfl,rfl,fun k p hp=> ?_⟩
  match k,hp with
  |0,hp=>exact ⟨_,rfl,.inl (Option.some.inj hp).symm⟩
  |k+1,hp=>simp at hp
 ·have h:I5 cs=some y:=h
  unfold I5 at h
  split at h
  case h_2=>cases h
  obtain ⟨z,rfl⟩:=hC h
  refine ⟨rfl,rfl,fun k p hp=> ?_⟩
  match k,hp with
  |0,hp=>exact ⟨_,rfl,.inr ⟨_,_,_,(Option.some.inj hp).symm,rfl⟩⟩
  |k+1,hp=>simp at hp
 ·have h:rS cs=some y:=h
  unfold rS at h
  split at h
  case h_2=>cases h
  split at h
  case h_2=>cases h
  rename_i h1 h2 x
  injection h with h;subst h
  obtain ⟨z,rfl⟩:=hC h1;obtain ⟨A,rfl⟩:=hT h2;obtain ⟨E,rfl⟩:=hB x
  refine ⟨rfl,rfl,fun k p hp=> ?_⟩
  match k,hp with
  |0,hp=>exact ⟨_,rfl,.inl (Option.some.inj hp).symm⟩
  |1,hp=>exact ⟨_,rfl,.inl (Option.some.inj hp).symm⟩
  |2,hp=>exact ⟨_,rfl,.inl (Option.some.inj hp).symm⟩
  |3,hp=>exact ⟨_,rfl,.inl (Option.some.inj hp).symm⟩
  |4,hp=>exact ⟨_,rfl,.inr ⟨_,_,_,(Option.some.inj hp).symm,rfl⟩⟩
  |5,hp=>exact ⟨_,rfl,.inr ⟨_,_,_,(Option.some.inj hp).symm,rfl⟩⟩
  |6,hp=>exact ⟨_,rfl,.inr ⟨_,_,_,(Option.some.inj hp).symm,rfl⟩⟩
  |k+7,hp=>simp at hp
 ·have h:rS cs=some y:=h
  unfold rS at h
  split at h
  case h_2=>cases h
  split at h
  case h_2=>cases h
  rename_i h1 h2 x
  injection h with h;subst h
  obtain ⟨z,rfl⟩:=hC h1;obtain ⟨A,rfl⟩:=hT h2;obtain ⟨E,rfl⟩:=hB x
  refine ⟨rfl,rfl,fun k p hp=> ?_⟩
  match k,hp with
  |0,hp=>exact ⟨_,rfl,.inl (Option.some.inj hp).symm⟩
  |1,hp=>exact ⟨_,rfl,.inl (Option.some.inj hp).symm⟩
  |2,hp=>exact ⟨_,rfl,.inl (Option.some.inj hp).symm⟩
  |3,hp=>exact ⟨_,rfl,.inl (Option.some.inj hp).symm⟩
  |4,hp=>exact ⟨_,rfl,.inr ⟨_,_,_,(Option.some.inj hp).symm,rfl⟩⟩
  |5,hp=>exact ⟨_,rfl,.inr ⟨_,_,_,(Option.some.inj hp).symm,rfl⟩⟩
  |6,hp=>exact ⟨_,rfl,.inr ⟨_,_,_,(Option.some.inj hp).symm,rfl⟩⟩
  |k+7,hp=>simp at hp
 ·have h:aNu cs=some y:=h
  unfold aNu at h
  split at h
  case h_2=>cases h
  split at h
  case h_2=>cases h
  rename_i h1
  injection h with h;subst h
  obtain ⟨z,rfl⟩:=hC h1
  refine ⟨rfl,rfl,fun k p hp=> ?_⟩
  match k,hp with
  |0,hp=>exact ⟨_,rfl,.inl (Option.some.inj hp).symm⟩
  |1,hp=>exact ⟨_,rfl,.inr ⟨_,_,_,(Option.some.inj hp).symm,rfl⟩⟩
  |k+2,hp=>simp at hp
theorem acB (e:ET): ∃i,Tryz.prog.info? (f' e)=some i/\i.zero=some (zY e)/\i.size=pQ e/\i.bytes=zQ e:=by
 have h:=KA e
 unfold Ep at h
 split at h
 ·rename_i i q
  simp only [qk] at h
  obtain ⟨⟨h1,h2,x⟩,B⟩:=h
  refine ⟨i,q, ?_,by simpa using h2,by simpa using x⟩
  unfold zY
  rw [q]
  obtain ⟨z,A⟩:=Option.isSome_iff_exists.1 h1
  simp [A]
 ·cases h
noncomputable def LL (o:Obj):qB VV Tryz.prog where
 jY:=[(0,o)]
 bV:=f'
 aR:=pQ
 kU:=zQ
 iA:=zY
 kJ:=acB
 nL:=fun e=>by
  have h:=KA e
  unfold Ep at h
  split at h
  ·simp only [qk] at h
   exact by simpa using h.2
  ·cases h
 nN:=fun e=>by cases e<;>decide
 nM:=fun e n h=>by
  have h':n<=1099511627776:=h
  cases e<;>simp only [zQ,maxLen]<;>omega
 len:=fun e x=>by cases e<;>rfl
 small:=fun e=>by cases e<;>decide
 kK:=fun e x=>by cases e<;>rfl
 kC:=akU
 ty:=fun t r h=>T6 (T7 t r h)
 keyT:=fun t r e h hk=>by
  have he:=aeb t r e h hk
  subst he
  obtain ⟨fs,h1,h2,_,q,z⟩:=(T6 (T7 69 _ rfl)).ni rfl
  exact ⟨⟨fs,h1,h2,q,z⟩,fun x y=>⟨_,by simp only [VV,Dg,PV.eqvI];rfl⟩⟩
theorem Ax:Tryz.prog.follows .mixedOrders=true:=by kernel_rfl
theorem sw {A B:Out UU->Prop} (h: ∃out,A out/\B out): ∃out,B out/\A out:=by obtain ⟨o,a,b⟩:=h;exact ⟨o,b,a⟩
theorem ZM {S:Type} {b:Bool} {x y:Option S} {v:S} (h:(bif b then x else y)=some v):x=some v\/y=some v:=by
 cases b
 ·exact .inr h
 ·exact .inl h
end
end
section
open Go PI
def BC (s:Int):Prop:=0<=s/\s<4294967296
theorem BC.nat {s:Int} (h:BC s): ∃n:Nat,n<4294967296/\s=n:=⟨s.toNat,by have:=h.1;have:=h.2;omega,by have:=h.1;omega⟩
theorem qa {n:Nat} (h:n<4294967296):(BitVec.ofInt 32 (n:Int)).toNat=n:=by
 grind
theorem ld (n:Nat) (h:n<4294967296):ot .u32 (n:Int)=n:=by
 grind [ot,IntKind.bits,IntKind.signed]
theorem iR (n:Nat) (h:n<18446744073709551616):ot .u64 (n:Int)=n:=by
 grind [ot,IntKind.bits,IntKind.signed]
theorem alX {n:Int} (h1: -9223372036854775808<=n) (h2:n<9223372036854775808):ot .i64 n=n:=by
 grind [ot,IntKind.bits,IntKind.signed]
theorem q1 {a b n:Nat} (h:a<2^n):a&&&b<2^n:=Nat.lt_of_le_of_lt Nat.and_le_left h
theorem lj {a b:Nat} (ha:a<4294967296) (hb:b<4294967296):bj .and .u32 (a:Int) (b:Int)=((a&&&b:Nat):Int):=by
 have h1:=qa ha;have h2:=qa hb
 simp only [bj]
 show ot .u32 (((BitVec.ofInt 32 (a:Int))&&&(BitVec.ofInt 32 (b:Int))).toNat:Int)=_
 rw [BitVec.toNat_and,h1,h2]
 exact ld _ (q1 (n:=32) ha)
theorem wK {a b:Nat} (ha:a<4294967296) (hb:b<4294967296):bj .or .u32 (a:Int) (b:Int)=((a|||b:Nat):Int):=by
 have h1:=qa ha;have h2:=qa hb
 simp only [bj]
 show ot .u32 (((BitVec.ofInt 32 (a:Int))|||(BitVec.ofInt 32 (b:Int))).toNat:Int)=_
 rw [BitVec.toNat_or,h1,h2]
 exact ld _ (Nat.or_lt_two_pow (n:=32) ha hb)
def dL (a b:Nat):Nat:=a^^^(a&&&b)
theorem mm (a b i:Nat):(dL a b).testBit i=(a.testBit i&& !b.testBit i):=by
 grind [dL]
theorem vq {a b n:Nat} (h:a<2^n):dL a b<2^n:=Nat.xor_lt_two_pow h (q1 h)
theorem C_ {a b:Nat} (ha:a<4294967296) (hb:b<4294967296):bj .andNot .u32 (a:Int) (b:Int)=((dL a b:Nat):Int):=by
 have h1:=qa ha;have h2:=qa hb
 simp only [bj]
 show ot .u32 (((BitVec.ofInt 32 (a:Int))&&& ~~~(BitVec.ofInt 32 (b:Int))).toNat:Int)=_
 have e:((BitVec.ofInt 32 (a:Int))&&& ~~~(BitVec.ofInt 32 (b:Int))).toNat=dL a b:=by
  apply Nat.eq_of_testBit_eq
  intro i
  rw [mm,BitVec.toNat_and,Nat.testBit_and,h1]
  by_cases q:i<32
  ·grind
  ·have:a.testBit i=false:=Nat.testBit_lt_two_pow (Nat.lt_of_lt_of_le ha (by exact Nat.pow_le_pow_right (n:=2) (by decide) (show 32<=i by omega)))
   grind
 rw [e]
 exact ld _ (vq (n:=32) ha)
theorem aY {α:Type} (p:Prop) [Decidable p] (x y:α):ab (decide p) x y=if p then x else y:=by
 grind [ae,n3]
theorem cH {α:Type} (c:Bool) (x y:α):ab c x y=if c=true then x else y:=by
 grind [n3,ae]
abbrev Fu (k:Nat):Prop:=4294967296<=k
theorem ag {R S:Type} {k:Nat} (h:Fu k) (f:(R->OS S)->OS S) (g:R->OS S):aa k f g=f g:=ZV (by omega) f g
theorem J5 {S:Type} {n m:Nat} (h:n+m<=1099511627776) (f:Unit->OS S):oa (aw 1099511627776 n m) f=f ():=by
 grind [aw]
theorem qH {α:Type} {l p r:List α} {x:α} (h:l=p++x::r) (hl:l.length<4611686018427387904):
  decide ((p.length:Int)<(l.length:Int))=true/\af l (p.length:Int)=some x/\ot .i64 ((p.length:Int)+1)=((p++[x]).length:Int)/\l=(p++[x])++r:=by
 subst h
 rw [F6,uN] at hl
 refine ⟨decide_eq_true (by grind), ?_, ?_,by simp⟩
 all_goals grind [af,ot,IntKind.bits]
theorem xw {α:Type} {l p:List α} (h:l=p++[]):decide ((p.length:Int)<(l.length:Int))=false:=by
 grind
theorem py {n m:Nat} (h:n<m): ∃q,m=q+1/\n<=q:=⟨m-1,by omega,by omega⟩
theorem fN {S:Type} (p:Prop) [Decidable p] (h:p) (f:Unit->OS S):oa (bR p) f=f ():=by simp [bR,h]
theorem pU {α:Type} (l:List α) (i:Nat):af l (i:Int)=l[i]? :=by rfl
end
section
open Go PI
noncomputable section
variable {S:Type}
def pg (k:Nat) (kind:Int) (kids:LT) (I:Int×Int×BA×LT->OS S):OS S:=I (kind,0,pf,kids)
def gI (k:Nat) (kind bU:Int) (I:Int×Int->OS S):OS S:=ab (kind==4) (ab (bU==1) (I (1,0)) (I (0,0))) (ab (kind==7) (ab (bU==1) (I (1,0)) (I (0,0))) (ab (kind==5) (ab (bU==0) (I (1,0)) (I (0,0))) (ab (kind==22) (ab (bU==0) (I (1,0)) (I (0,0))) (ab (kind==27) (ab (bU==0) (I (1,0)) (I (0,0))) (ab (kind==11) (ab (bU==0) (I (0,1)) (I (0,0))) (ab (kind==12) (ab (bU==0) (I (0,1)) (I (0,0))) (ab (kind==14) (ab (bU==0) (I (0,1)) (I (0,0))) (I (0,0)))))))))
abbrev du (S:Type):=Tm->Int->(Bool->OS S)->OS S
def uk (hd:du S) (k:Nat) (Dd:Tm) (p q c0:Int) (I:Bool->OS S):OS S:=hd (ac Dd) (ot .i64 (c0-1)) fun r1=>I r1
def yi (hd:du S) (k:Nat) (I:Bool->OS S) (c0:Int) (t:Tm) (oI:Int) (x4:(Br Tm)) (q:Int) (x:Int->Int->OS S) (z:Int->OS S) (qF:Int):OS S:=ab (decide ((qF:Int)<(x4.c.length:Int))) (oa (af x4.c qF) fun x5=>aa k (uk hd k (ac x5) 0 q c0) fun A=>ab (!A) (I false) (z (ot .i64 (qF+1)))) (x (ot .i64 (oI+1)) q)
def SF (hd:du S) (k:Nat) (I:Bool->OS S) (x:Int->Int->OS S) (c0:Int) (t:Tm) (oI:Int) (x4:(Br Tm)) (q:Int):Nat->Int->OS S
 |0=>fun _=> .none
 |m+1=>fun qF=>yi hd k I c0 t oI x4 q x (SF hd k I x c0 t oI x4 q m) qF
def tp (hd:du S) (k:Nat) (I:Bool->OS S) (c0:Int) (t:Tm) (J2:Int->(Br Tm)->Int->Int->OS S) (x:Int->Int->OS S) (oI q:Int):OS S:=ab (decide ((oI:Int)<(t.s.length:Int))) (oa (af t.s oI) fun x4=>J2 oI x4 q 0) (I true)
def jp (hd:du S) (k:Nat) (I:Bool->OS S) (c0:Int) (t:Tm):Nat->Int->Int->OS S
 |0=>fun _ _=> .none
 |m+1=>fun oI q=>tp hd k I c0 t (fun oI x4 q qF=>SF hd k I (jp hd k I c0 t m) c0 t oI x4 q k qF) (jp hd k I c0 t m) oI q
def tn (hd:du S) (k:Nat) (I:Bool->OS S) (c0:Int) (t:Tm) (J1:Int->Int->OS S) (q:Int->OS S) (ox:Int):OS S:=ab (decide ((ox:Int)<(t.c.length:Int))) (oa (af t.c ox) fun x1=>aa k (gI k t.k ox) fun x=>aa k (uk hd k (ac x1) x.1 x.2 c0) fun z=>ab (!z) (I false) (q (ot .i64 (ox+1)))) (ab (t.k==15) (J1 0 1) (J1 0 0))
def qS (hd:du S) (k:Nat) (I:Bool->OS S) (c0:Int) (t:Tm):Nat->Int->OS S
 |0=>fun _=> .none
 |m+1=>fun ox=>tn hd k I c0 t (fun oI q=>jp hd k I c0 t k oI q) (qS hd k I c0 t m) ox
def IV (hd:du S) (k:Nat) (I:Bool->OS S) (J0:Int->OS S) (t:Tm) (c0:Int):OS S:=J0 0
def DX (hd:du S) (k:Nat) (t:Tm) (c0:Int) (I:Bool->OS S):OS S:=IV hd k I (fun ox=>qS hd k I c0 t k ox) t c0
def TV (hd:du S) (k:Nat) (I:Bool->OS S) (t:Tm) (left:Int):OS S:=ab (decide ((left:Int)>0)) (aa k (DX hd k (ac t) left) fun r1=>I r1) (I false)
def jf:Nat->Tm->Int->(Bool->OS S)->OS S
 |0=>fun _ _ _=> .none
 |k+1=>fun t left I=>TV (jf k) k I t left
abbrev Hy (S:Type):=Tm->Int->(Bool×Int->OS S)->OS S
def pB (hd:Hy S) (k:Nat) (t:Tm) (c0:Int) (I:Bool×Int->OS S):OS S:=ab (decide ((ot .i64 (c0-1):Int)>=0)) (hd (ac t) (ot .i64 (c0-1)) fun r1=>I (r1.1,r1.2)) (I (false,ot .i64 (c0-1)))
def ul (hd:Hy S) (k:Nat) (Dd:Tm) (p q c1:Int) (I:Bool×Int->OS S):OS S:=aa k (pB hd k (ac Dd) c1) fun r1=>I (r1.1,r1.2)
def yg (hd:Hy S) (k:Nat) (I:Bool×Int->OS S) (t:Tm) (oI:Int) (x4:(Br Tm)) (q:Int) (x:Int->Int->Int->OS S) (z:Int->Int->OS S) (te qF:Int):OS S:=ab (decide ((qF:Int)<(x4.c.length:Int))) (oa (af x4.c qF) fun x5=>aa k (ul hd k (ac x5) 0 q te) fun A=>ab (!A.1) (I (false,A.2)) (z A.2 (ot .i64 (qF+1)))) (x te (ot .i64 (oI+1)) q)
def kL (hd:Hy S) (k:Nat) (I:Bool×Int->OS S) (x:Int->Int->Int->OS S) (t:Tm) (oI:Int) (x4:(Br Tm)) (q:Int):Nat->Int->Int->OS S
 |0=>fun _ _=> .none
 |m+1=>fun te qF=>yg hd k I t oI x4 q x (kL hd k I x t oI x4 q m) te qF
def tj (hd:Hy S) (k:Nat) (I:Bool×Int->OS S) (t:Tm) (J2:Int->(Br Tm)->Int->Int->Int->OS S) (x:Int->Int->Int->OS S) (sY oI q:Int):OS S:=ab (decide ((oI:Int)<(t.s.length:Int))) (oa (af t.s oI) fun x4=>J2 oI x4 q sY 0) (I (true,sY))
def Mp (hd:Hy S) (k:Nat) (I:Bool×Int->OS S) (t:Tm):Nat->Int->Int->Int->OS S
 |0=>fun _ _ _=> .none
 |m+1=>fun sY oI q=>tj hd k I t (fun oI x4 q te qF=>kL hd k I (Mp hd k I t m) t oI x4 q k te qF) (Mp hd k I t m) sY oI q
def ti (hd:Hy S) (k:Nat) (I:Bool×Int->OS S) (t:Tm) (J1:Int->Int->Int->OS S) (q:Int->Int->OS S) (arm ox:Int):OS S:=ab (decide ((ox:Int)<(t.c.length:Int))) (oa (af t.c ox) fun x1=>aa k (gI k t.k ox) fun z=>aa k (ul hd k (ac x1) z.1 z.2 arm) fun x=>ab (!x.1) (I (false,x.2)) (q x.2 (ot .i64 (ox+1)))) (ab (t.k==15) (J1 arm 0 1) (J1 arm 0 0))
def nY (hd:Hy S) (k:Nat) (I:Bool×Int->OS S) (t:Tm):Nat->Int->Int->OS S
 |0=>fun _ _=> .none
 |m+1=>fun arm ox=>ti hd k I t (fun sY oI q=>Mp hd k I t k sY oI q) (nY hd k I t m) arm ox
def IT (hd:Hy S) (k:Nat) (I:Bool×Int->OS S) (J0:Int->Int->OS S) (t:Tm) (c1:Int):OS S:=J0 c1 0
def KY:Nat->Tm->Int->(Bool×Int->OS S)->OS S
 |0=>fun _ _ _=> .none
 |k+1=>fun t c1 I=>IT (KY k) k I (fun arm ox=>nY (KY k) k I t k arm ox) t c1
def zE (k:Nat) (t:Tm) (ov:Int) (I:Bool->OS S):OS S:=aa k (pB (KY k) k (ac t) ov) fun r1=>I r1.1
def zD (k:Nat) (t:Tm) (I:Int->OS S):OS S:=jf k (ac t) 200 fun r1=>ab (!r1) (I 62) (aa k (zE k (ac t) 20000) fun q=>ab (!q) (I 221) (I 0))
def zA (k:Nat) (kind:Int) (I:Int->OS S):OS S:=ab (kind==1) (I 0) (ab (kind==2) (I 0) (ab (kind==3) (I 0) (ab (kind==19) (I 0) (ab (kind==20) (I 0) (ab (kind==24) (I 0) (ab (kind==25) (I 0) (ab (kind==21) (I 0) (ab (kind==5) (I 1) (ab (kind==9) (I 1) (ab (kind==10) (I 1) (ab (kind==23) (I 1) (ab (kind==12) (I 1) (ab (kind==16) (I 1) (ab (kind==17) (I 1) (ab (kind==18) (I 1) (ab (kind==26) (I 1) (ab (kind==4) (I 2) (ab (kind==7) (I 2) (ab (kind==6) (I 2) (ab (kind==8) (I 2) (ab (kind==14) (I 2) (ab (kind==15) (I 2) (ab (kind==28) (I 2) (ab (kind==11) (I 3) (ab (kind==13) (I 3) (ab (kind==22) (I 4) (ab (kind==27) (I 5) (I (-1)))))))))))))))))))))))))))))
def lJ (k:Nat) (kind:Int) (I:Int->OS S):OS S:=ab (kind==15) (I 1) (ab (kind==17) (I 1) (ab (kind==18) (I 1) (ab (kind==16) (I 2) (I 0))))
def Dk (k:Nat) (I:Bool->OS S) (s:BA) (z:Int) (x1:UInt8) (x:Int->OS S) (q:Bool):OS S:=ab (!q) (ab (z==0) (I false) (ab (decide (((x1.toNat:Int):Int)<48)) (I false) (ab (decide (((x1.toNat:Int):Int)>57)) (I false) (x (ot .i64 (z+1)))))) (x (ot .i64 (z+1)))
def Aq (k:Nat) (I:Bool->OS S) (x:Int->OS S) (s:BA) (z:Int) (x1:UInt8):Nat->Bool->OS S
 |0=>fun _=> .none
 |_+1=>fun q=>Dk k I s z x1 x q
def tv (k:Nat) (I:Bool->OS S) (s:BA) (J1:Int->UInt8->Bool->OS S) (x:Int->OS S) (q:Int):OS S:=ab (decide ((q:Int)<(s.size:Int))) (oa (af s.data.toList q) fun x1=>ab (decide (((x1.toNat:Int):Int)>=97)) (ab (decide (((x1.toNat:Int):Int)<=122)) (J1 q x1 true) (ab (decide (((x1.toNat:Int):Int)>=65)) (ab (decide (((x1.toNat:Int):Int)<=90)) (J1 q x1 true) (J1 q x1 ((x1.toNat:Int)==95))) (J1 q x1 ((x1.toNat:Int)==95)))) (ab (decide (((x1.toNat:Int):Int)>=65)) (ab (decide (((x1.toNat:Int):Int)<=90)) (J1 q x1 true) (J1 q x1 ((x1.toNat:Int)==95))) (J1 q x1 ((x1.toNat:Int)==95)))) (I (!(s==pf)))
def n7 (k:Nat) (I:Bool->OS S) (s:BA):Nat->Int->OS S
 |0=>fun _=> .none
 |m+1=>fun x=>tv k I s (fun x x1 q=>Aq k I (n7 k I s m) s x x1 k q) (n7 k I s m) x
def IY (k:Nat) (I:Bool->OS S) (J0:Int->OS S) (s:BA):OS S:=J0 0
def zC (k:Nat) (s:BA) (I:Bool->OS S):OS S:=IY k I (fun q=>n7 k I s k q) s
def pm (k:Nat) (s:Int) (I:Bool->OS S):OS S:=I ((bj .andNot .u32 s 16777215)==0)
def tC (k:Nat) (c:Cl) (I:Bool->OS S):OS S:=aa k (pm k c.pos) fun r1=>ab (r1) (aa k (pm k c.neg) fun q=>I q) (I false)
def pb (k:Nat) (a b:Cl) (I:Cl->OS S):OS S:=I (Cl.mk (bj .or .u32 a.pos b.pos) (bj .or .u32 a.neg b.neg))
def yA (k:Nat) (a b:Cl) (I:Bool->OS S):OS S:=aa k (pb k a b) fun r1=>I ((r1.pos==a.pos)&&((r1.neg==a.neg)&&true))
def yC (k:Nat) (d c0:Cl) (I:Bool->OS S):OS S:=ab (!((c0.pos==d.pos)&&((c0.neg==d.neg)&&true))) (aa k (yA k c0 d) fun r1=>I r1) (I false)
def yc (k:Nat) (I:Int->OS S) (c0:Cl) (s:LC) (q:Int->OS S) (x:Int):OS S:=ab (decide ((x:Int)<(s.length:Int))) (oa (af s x) fun x1=>aa k (yC k x1 c0) fun z=>ab (z) (I x) (q (ot .i64 (x+1)))) (I (-1))
def qO (k:Nat) (I:Int->OS S) (c0:Cl) (s:LC):Nat->Int->OS S
 |0=>fun _=> .none
 |m+1=>fun q=>yc k I c0 s (qO k I c0 s m) q
def IM (k:Nat) (I:Int->OS S) (J0:Int->OS S) (s:LC) (c0:Cl):OS S:=J0 0
def DV (k:Nat) (s:LC) (c0:Cl) (I:Int->OS S):OS S:=IM k I (fun q=>qO k I c0 s k q) s c0
def DT (k:Nat) (s:LC) (c0:Cl) (I:Bool->OS S):OS S:=aa k (DV k s c0) fun r1=>I (decide ((r1:Int)>=0))
def yB (k:Nat) (c:Cl) (c0:LC) (I:Bool->OS S):OS S:=aa k (DT k c0 c) fun r1=>I r1
def wM (k:Nat) (I:LC×Int->OS S) (x:LC) (z:Int->(LC)->OS S) (H5:Int) (q:LC):OS S:=ab (decide ((H5:Int)<(x.length:Int))) (oa (af x H5) fun x4=>aa k (yB k x4 x) fun A=>ab (!A) (oa (aw 1099511627776 q.length [x4].length) fun x6=>z (ot .i64 (H5+1)) (q++[x4])) (z (ot .i64 (H5+1)) q)) (ab (decide (((q.length:Int):Int)>64)) (I (([]:LC),3)) (I (sortCl q,0)))
def nz (k:Nat) (I:LC×Int->OS S) (q:LC):Nat->Int->(LC)->OS S
 |0=>fun _ _=> .none
 |m+1=>fun H5 x=>wM k I q (nz k I q m) H5 x
def gk (k:Nat) (I:LC×Int->OS S) (l:LC) (J1:(LC)->Int->(LC)->OS S) (z:(List (Cl×Bool))->(LC)->Int->OS S) (A:List (Cl×Bool)) (q:LC) (x:Int):OS S:=ab (decide ((x:Int)<(l.length:Int))) (oa (af l x) fun x1=>aa k (tC k x1) fun B=>ab (!B) (I (([]:LC),2)) (ab (!((dW VV ET.C A x1).getD false)) (oa (aw 1099511627776 q.length [x1].length) fun x3=>z (KN VV ET.C A x1 true) (q++[x1]) (ot .i64 (x+1))) (z A q (ot .i64 (x+1))))) (J1 q 0 ([]:LC))
def pZ (k:Nat) (I:LC×Int->OS S) (l:LC):Nat->(List (Cl×Bool))->(LC)->Int->OS S
 |0=>fun _ _ _=> .none
 |m+1=>fun z q A=>gk k I l (fun q H5 x=>nz k I q k H5 x) (pZ k I l m) z q A
def Hw (k:Nat) (I:LC×Int->OS S) (J0:(List (Cl×Bool))->(LC)->Int->OS S) (l:LC):OS S:=J0 ([]:List (Cl×Bool)) ([]:LC) 0
def gy (k:Nat) (l:LC) (I:LC×Int->OS S):OS S:=Hw k I (fun x q z=>pZ k I l k x q z) l
def yb (k:Nat) (I:Bool->OS S) (s1 s2:LC) (x:Int->OS S) (q:Int):OS S:=ab (decide ((q:Int)<(s1.length:Int))) (oa (af s1 q) fun x1=>oa (af s2 q) fun x2=>ab (!((x1.pos==x2.pos)&&((x1.neg==x2.neg)&&true))) (I false) (x (ot .i64 (q+1)))) (I true)
def qN (k:Nat) (I:Bool->OS S) (s1 s2:LC):Nat->Int->OS S
 |0=>fun _=> .none
 |m+1=>fun q=>yb k I s1 s2 (qN k I s1 s2 m) q
def IL (k:Nat) (I:Bool->OS S) (J0:Int->OS S) (s1 s2:LC):OS S:=ab (!((s1.length:Int)==(s2.length:Int))) (I false) (J0 0)
def zz (k:Nat) (s1 s2:LC) (I:Bool->OS S):OS S:=IL k I (fun q=>qN k I s1 s2 k q) s1 s2
def hY (k:Nat) (f:LC) (I:Bool->OS S):OS S:=aa k (gy k f) fun r1=>ab (r1.2==0) (aa k (zz k r1.1 f) fun q=>I q) (I false)
def nd (k:Nat) (i:Int) (I:Bool->OS S):OS S:=ab (decide ((i:Int)>=0)) (I (decide ((i:Int)<24))) (I false)
def jX (k:Nat) (s i:Int) (I:Int->OS S):OS S:=aa k (nd k i) fun r1=>ab (!r1) (I (bj .and .u32 s 16777215)) (oa (bR (0<=(ot .u64 i))) fun x2=>I (bj .andNot .u32 (bj .and .u32 s 16777215) (ot .u32 (1*2^min (zk (ot .u64 i)) 32))))
def wY (k:Nat) (I:Int->OS S) (f:LC) (q:Int->Int->OS S) (z x:Int):OS S:=ab (decide ((x:Int)<(f.length:Int))) (oa (af f x) fun x1=>q (bj .or .u32 z (bj .or .u32 x1.pos x1.neg)) (ot .i64 (x+1))) (aa k (jX k z (-1)) fun A=>I A)
def qb (k:Nat) (I:Int->OS S) (f:LC):Nat->Int->Int->OS S
 |0=>fun _ _=> .none
 |m+1=>fun q x=>wY k I f (qb k I f m) q x
def HL (k:Nat) (I:Int->OS S) (J0:Int->Int->OS S) (f:LC):OS S:=J0 0 0
def A' (k:Nat) (f:LC) (I:Int->OS S):OS S:=HL k I (fun q x=>qb k I f k q x) f
def lK (k:Nat) (f:LC) (nV:Int) (I:Bool->OS S):OS S:=ab (decide ((nV:Int)>=24)) (I true) (aa k (A' k f) fun r1=>oa (bR (0<=(ot .u64 nV))) fun x2=>I ((Int.fdiv r1 (2^min (zk (ot .u64 nV)) 32))==0))
def tB (k:Nat) (c:Cl) (I:Bool->OS S):OS S:=I (!((bj .and .u32 c.pos c.neg)==0))
def yd (k:Nat) (I:Int->OS S) (s:LC) (q:Int->OS S) (x:Int):OS S:=ab (decide ((x:Int)<(s.length:Int))) (oa (af s x) fun x1=>aa k (tB k x1) fun z=>ab (z) (I x) (q (ot .i64 (x+1)))) (I (-1))
def qP (k:Nat) (I:Int->OS S) (s:LC):Nat->Int->OS S
 |0=>fun _=> .none
 |m+1=>fun q=>yd k I s (qP k I s m) q
def IN (k:Nat) (I:Int->OS S) (J0:Int->OS S) (s:LC):OS S:=J0 0
def DW (k:Nat) (s:LC) (I:Int->OS S):OS S:=IN k I (fun q=>qP k I s k q) s
def DU (k:Nat) (s:LC) (I:Bool->OS S):OS S:=aa k (DW k s) fun r1=>I (decide ((r1:Int)>=0))
def pd (k:Nat) (f:LC) (I:Bool->OS S):OS S:=aa k (hY k f) fun r1=>ab (r1) (aa k (DU k f) fun q=>I (!q)) (I false)
def yl (k:Nat) (I:Bool->OS S) (t:Tm) (nV:Int) (x:Int->OS S) (v109:Int):OS S:=ab (decide ((v109:Int)<(t.s.length:Int))) (oa (af t.s v109) fun q=>aa k (lJ k t.k) fun r13=>ab (!((q.c.length:Int)==r13)) (I false) (aa k (pd k q.f) fun r14=>ab (!r14) (I false) (aa k (lK k q.f nV) fun z=>ab (!z) (I false) (x (ot .i64 (v109+1)))))) (I ((t.r.length:Int)==0))
def kO (k:Nat) (I:Bool->OS S) (t:Tm) (nV:Int):Nat->Int->OS S
 |0=>fun _=> .none
 |m+1=>fun v109=>yl k I t nV (kO k I t nV m) v109
def tw (k:Nat) (I:Bool->OS S) (t:Tm) (vars nV:Int) (J1:Int->OS S):OS S:=ab (t.k==1) (ab ((t.r.length:Int)==0) (ab (decide ((t.n:Int)>=0)) (ab (decide ((vars:Int)<0)) (I true) (I (decide ((t.n:Int)<vars)))) (I false)) (I false)) (ab (t.k==2) (ab ((t.r.length:Int)==0) (aa k (zC k t.name) fun z=>I z) (I false)) (ab (t.k==13) (aa k (hY k t.r) fun A=>ab (A) (aa k (lK k t.r nV) fun B=>I B) (I false)) (ab (t.k==21) (aa k (hY k t.r) fun E=>ab (E) (aa k (lK k t.r nV) fun F=>I F) (I false)) (ab (t.k==26) (aa k (hY k t.r) fun J=>ab (J) (aa k (lK k t.r nV) fun L=>I L) (I false)) (ab (t.k==14) (aa k (pd k t.r) fun q=>ab (q) (aa k (lK k t.r nV) fun x=>I x) (I false)) (J1 0))))))
def Ar (k:Nat) (I:Bool->OS S) (t:Tm) (vars nV:Int):Nat->OS S
 |0=> .none
 |_+1=>tw k I t vars nV (fun v109=>kO k I t nV k v109)
def IZ (k:Nat) (I:Bool->OS S) (J0:OS S) (t:Tm) (vars nV:Int):OS S:=aa k (zA k t.k) fun r1=>ab (!(r1==(t.c.length:Int))) (I false) (ab (!(t.k==1)) (ab (!(t.n==0)) (I false) (ab (!(t.k==2)) (ab (!(t.name==pf)) (I false) (aa k (lJ k t.k) fun A=>ab (A==0) (ab (decide (((t.s.length:Int):Int)>0)) (I false) (J0)) (J0))) (aa k (lJ k t.k) fun q=>ab (q==0) (ab (decide (((t.s.length:Int):Int)>0)) (I false) (J0)) (J0)))) (ab (!(t.k==2)) (ab (!(t.name==pf)) (I false) (aa k (lJ k t.k) fun x=>ab (x==0) (ab (decide (((t.s.length:Int):Int)>0)) (I false) (J0)) (J0))) (aa k (lJ k t.k) fun z=>ab (z==0) (ab (decide (((t.s.length:Int):Int)>0)) (I false) (J0)) (J0))))
def uj (k:Nat) (t:Tm) (vars nV:Int) (I:Bool->OS S):OS S:=IZ k I (Ar k I t vars nV k) t vars nV
abbrev dr (S:Type):=Tm->Int->Int->Bool->(Bool->OS S)->OS S
def uh (hd:dr S) (k:Nat) (Dd:Tm) (v d c0 c1:Int) (c2:Bool) (I:Bool->OS S):OS S:=ab (decide ((c0:Int)<0)) (hd (ac Dd) (ot .i64 (c0+0)) (ot .i64 (c1+d)) c2 fun r1=>I r1) (hd (ac Dd) (ot .i64 (c0+v)) (ot .i64 (c1+d)) c2 fun q=>I q)
def yh (hd:dr S) (k:Nat) (I:Bool->OS S) (c0 c1:Int) (c2:Bool) (t:Tm) (oI:Int) (x4:(Br Tm)) (q:Int) (x:Int->Int->OS S) (z:Int->OS S) (qF:Int):OS S:=ab (decide ((qF:Int)<(x4.c.length:Int))) (oa (af x4.c qF) fun x5=>aa k (uh hd k (ac x5) 0 q c0 c1 c2) fun A=>ab (!A) (I false) (z (ot .i64 (qF+1)))) (x (ot .i64 (oI+1)) q)
def mi (hd:dr S) (k:Nat) (I:Bool->OS S) (x:Int->Int->OS S) (c0 c1:Int) (c2:Bool) (t:Tm) (oI:Int) (x4:(Br Tm)) (q:Int):Nat->Int->OS S
 |0=>fun _=> .none
 |m+1=>fun qF=>yh hd k I c0 c1 c2 t oI x4 q x (mi hd k I x c0 c1 c2 t oI x4 q m) qF
def tl (hd:dr S) (k:Nat) (I:Bool->OS S) (c0 c1:Int) (c2:Bool) (t:Tm) (J2:Int->(Br Tm)->Int->Int->OS S) (x:Int->Int->OS S) (oI q:Int):OS S:=ab (decide ((oI:Int)<(t.s.length:Int))) (oa (af t.s oI) fun x4=>J2 oI x4 q 0) (I true)
def iC (hd:dr S) (k:Nat) (I:Bool->OS S) (c0 c1:Int) (c2:Bool) (t:Tm):Nat->Int->Int->OS S
 |0=>fun _ _=> .none
 |m+1=>fun oI q=>tl hd k I c0 c1 c2 t (fun oI x4 q qF=>mi hd k I (iC hd k I c0 c1 c2 t m) c0 c1 c2 t oI x4 q k qF) (iC hd k I c0 c1 c2 t m) oI q
def tk (hd:dr S) (k:Nat) (I:Bool->OS S) (c0 c1:Int) (c2:Bool) (t:Tm) (J1:Int->Int->OS S) (q:Int->OS S) (ox:Int):OS S:=ab (decide ((ox:Int)<(t.c.length:Int))) (oa (af t.c ox) fun x1=>aa k (gI k t.k ox) fun x=>aa k (uh hd k (ac x1) x.1 x.2 c0 c1 c2) fun z=>ab (!z) (I false) (q (ot .i64 (ox+1)))) (ab (t.k==15) (J1 0 1) (J1 0 0))
def nZ (hd:dr S) (k:Nat) (I:Bool->OS S) (c0 c1:Int) (c2:Bool) (t:Tm):Nat->Int->OS S
 |0=>fun _=> .none
 |m+1=>fun ox=>tk hd k I c0 c1 c2 t (fun oI q=>iC hd k I c0 c1 c2 t k oI q) (nZ hd k I c0 c1 c2 t m) ox
def IU (hd:dr S) (k:Nat) (I:Bool->OS S) (J0:Int->OS S) (t:Tm) (c0 c1:Int) (c2:Bool):OS S:=J0 0
def zB (hd:dr S) (k:Nat) (t:Tm) (c0 c1:Int) (c2:Bool) (I:Bool->OS S):OS S:=IU hd k I (fun ox=>nZ hd k I c0 c1 c2 t k ox) t c0 c1 c2
def TT (hd:dr S) (k:Nat) (I:Bool->OS S) (t:Tm) (vars nV:Int) (bound:Bool):OS S:=ab (bound) (ab (decide ((nV:Int)>24)) (I false) (aa k (uj k (ac t) vars nV) fun r1=>ab (!r1) (I false) (aa k (zB hd k (ac t) vars nV bound) fun q=>I q))) (aa k (uj k (ac t) vars nV) fun x=>ab (!x) (I false) (aa k (zB hd k (ac t) vars nV bound) fun z=>I z))
def ic:Nat->Tm->Int->Int->Bool->(Bool->OS S)->OS S
 |0=>fun _ _ _ _ _=> .none
 |k+1=>fun t vars nV bound I=>TT (ic k) k I t vars nV bound
def DS (k:Nat) (t:Tm) (I:Int->OS S):OS S:=aa k (zD k (ac t)) fun r1=>ab (!(r1==0)) (I r1) (ic k (ac t) (-1) 24 false fun q=>ab (!q) (I 100) (I 0))
abbrev eP (S:Type):=Tm->(Tm->OS S)->OS S
def yf (hd:eP S) (k:Nat) (I:LT->OS S) (l:LT) (x:(LT)->Int->OS S) (q:LT) (z:Int):OS S:=ab (decide ((z:Int)<(l.length:Int))) (oa (af l z) fun x1=>hd (ac x1) fun A=>oa (aw 1099511627776 q.length [(ac A)].length) fun x3=>x (q++[(ac A)]) (ot .i64 (z+1))) (I q)
def k6 (hd:eP S) (k:Nat) (I:LT->OS S) (l:LT):Nat->(LT)->Int->OS S
 |0=>fun _ _=> .none
 |m+1=>fun q x=>yf hd k I l (k6 hd k I l m) q x
def IS (hd:eP S) (k:Nat) (I:LT->OS S) (J0:(LT)->Int->OS S) (l:LT):OS S:=J0 ([]:LT) 0
def ui (hd:eP S) (k:Nat) (l:LT) (I:LT->OS S):OS S:=IS hd k I (fun q x=>k6 hd k I l k q x) l
def ye (hd:eP S) (k:Nat) (I:Tm->OS S) (t:Tm) (r1:LC) (r2:LT) (x:(LB)->Int->OS S) (q:LB) (v22:Int):OS S:=ab (decide ((v22:Int)<(t.s.length:Int))) (oa (af t.s v22) fun x3=>iz x3.f fun z=>aa k (ui hd k x3.c) fun A=>oa (aw 1099511627776 q.length [(Br.mk z A)].length) fun x6=>x (q++[(Br.mk z A)]) (ot .i64 (v22+1))) (I (Tm.mk t.k t.n t.name r1 r2 q))
def qQ (hd:eP S) (k:Nat) (I:Tm->OS S) (t:Tm) (r1:LC) (r2:LT):Nat->(LB)->Int->OS S
 |0=>fun _ _=> .none
 |m+1=>fun q v22=>ye hd k I t r1 r2 (qQ hd k I t r1 r2 m) q v22
def IP (hd:eP S) (k:Nat) (I:Tm->OS S) (J0:(LC)->(LT)->(LB)->Int->OS S) (t:Tm):OS S:=iz t.r fun r1=>aa k (ui hd k t.c) fun q=>J0 r1 q ([]:LB) 0
def dJ:Nat->Tm->(Tm->OS S)->OS S
 |0=>fun _ _=> .none
 |k+1=>fun t I=>IP (dJ k) k I (fun r1 x q v22=>qQ (dJ k) k I t r1 x k q v22) t
def dG (k:Nat) (c0:Int) (I:Bool->OS S):OS S:=I (c0==0)
abbrev dq (S:Type):=Tm->(Int->OS S)->OS S
def ug (hd:dq S) (k:Nat) (Dd:Tm) (p q c0:Int) (I:Bool×Int->OS S):OS S:=hd (ac Dd) fun r1=>I (true,ot .i64 (c0+r1))
def yj (hd:dq S) (k:Nat) (I:Bool×Int->OS S) (t:Tm) (oI:Int) (x4:(Br Tm)) (q:Int) (x:Int->Int->Int->OS S) (z:Int->Int->OS S) (qE qF:Int):OS S:=ab (decide ((qF:Int)<(x4.c.length:Int))) (oa (af x4.c qF) fun x5=>aa k (ug hd k (ac x5) 0 q qE) fun A=>ab (!A.1) (I (false,A.2)) (z A.2 (ot .i64 (qF+1)))) (x qE (ot .i64 (oI+1)) q)
def n4 (hd:dq S) (k:Nat) (I:Bool×Int->OS S) (x:Int->Int->Int->OS S) (t:Tm) (oI:Int) (x4:(Br Tm)) (q:Int):Nat->Int->Int->OS S
 |0=>fun _ _=> .none
 |m+1=>fun qE qF=>yj hd k I t oI x4 q x (n4 hd k I x t oI x4 q m) qE qF
def tr (hd:dq S) (k:Nat) (I:Bool×Int->OS S) (t:Tm) (J2:Int->(Br Tm)->Int->Int->Int->OS S) (x:Int->Int->Int->OS S) (qw oI q:Int):OS S:=ab (decide ((oI:Int)<(t.s.length:Int))) (oa (af t.s oI) fun x4=>J2 oI x4 q qw 0) (I (true,qw))
def kM (hd:dq S) (k:Nat) (I:Bool×Int->OS S) (t:Tm):Nat->Int->Int->Int->OS S
 |0=>fun _ _ _=> .none
 |m+1=>fun qw oI q=>tr hd k I t (fun oI x4 q qE qF=>n4 hd k I (kM hd k I t m) t oI x4 q k qE qF) (kM hd k I t m) qw oI q
def tq (hd:dq S) (k:Nat) (I:Bool×Int->OS S) (t:Tm) (J1:Int->Int->Int->OS S) (x:Int->Int->OS S) (q ox:Int):OS S:=ab (decide ((ox:Int)<(t.c.length:Int))) (oa (af t.c ox) fun x1=>aa k (gI k t.k ox) fun A=>aa k (ug hd k (ac x1) A.1 A.2 q) fun z=>ab (!z.1) (I (false,z.2)) (x z.2 (ot .i64 (ox+1)))) (ab (t.k==15) (J1 q 0 1) (J1 q 0 0))
def gb (hd:dq S) (k:Nat) (I:Bool×Int->OS S) (t:Tm):Nat->Int->Int->OS S
 |0=>fun _ _=> .none
 |m+1=>fun x ox=>tq hd k I t (fun qw oI q=>kM hd k I t k qw oI q) (gb hd k I t m) x ox
def IW (hd:dq S) (k:Nat) (I:Bool×Int->OS S) (J0:Int->Int->OS S) (t:Tm) (c0:Int):OS S:=J0 c0 0
def DY (hd:dq S) (k:Nat) (t:Tm) (c0:Int) (I:Bool×Int->OS S):OS S:=IW hd k I (fun q ox=>gb hd k I t k q ox) t c0
def TS (hd:dq S) (k:Nat) (I:Int->OS S) (t:Tm):OS S:=aa k (DY hd k (ac t) 1) fun r1=>I r1.2
def j6:Nat->Tm->(Int->OS S)->OS S
 |0=>fun _ _=> .none
 |k+1=>fun t I=>TS (j6 k) k I t
abbrev fK (S:Type):=Tm->Int->(Int->OS S)->OS S
def xh (hd:fK S) (k:Nat) (I:Int->OS S) (qu:Int) (t:Tm) (qF:Int) (x4:(Br Tm)) (z:Int->Int->OS S) (A:Int->Int->OS S) (q x:Int):OS S:=ab (decide ((x:Int)<(x4.c.length:Int))) (oa (af x4.c x) fun x5=>hd (ac x5) qu fun B=>A (ot .i64 (q+B)) (ot .i64 (x+1))) (z (ot .i64 (qF+1)) q)
def nG (hd:fK S) (k:Nat) (I:Int->OS S) (x:Int->Int->OS S) (qu:Int) (t:Tm) (qF:Int) (x4:(Br Tm)):Nat->Int->Int->OS S
 |0=>fun _ _=> .none
 |m+1=>fun q z=>xh hd k I qu t qF x4 x (nG hd k I x qu t qF x4 m) q z
def sE (hd:fK S) (k:Nat) (I:Int->OS S) (qu:Int) (t:Tm) (J3:Int->(Br Tm)->Int->Int->OS S) (x:Int->Int->OS S) (qF q:Int):OS S:=ab (decide ((qF:Int)<(t.s.length:Int))) (oa (af t.s qF) fun x4=>J3 qF x4 q 0) (I q)
def ku (hd:fK S) (k:Nat) (I:Int->OS S) (qu:Int) (t:Tm):Nat->Int->Int->OS S
 |0=>fun _ _=> .none
 |m+1=>fun qF x=>sE hd k I qu t (fun qF x4 q z=>nG hd k I (ku hd k I qu t m) qu t qF x4 k q z) (ku hd k I qu t m) qF x
def sD (hd:fK S) (k:Nat) (I:Int->OS S) (t:Tm) (qu:Int) (J2:Int->Int->OS S) (x:Int->Int->OS S) (Fk q:Int):OS S:=ab (decide ((Fk:Int)<(t.c.length:Int))) (oa (af t.c Fk) fun x1=>aa k (gI k t.k Fk) fun z=>hd (ac x1) (ot .i64 (qu+z.1)) fun A=>x (ot .i64 (Fk+1)) (ot .i64 (q+A))) (J2 0 q)
def nF (hd:fK S) (k:Nat) (I:Int->OS S) (t:Tm) (qu:Int):Nat->Int->Int->OS S
 |0=>fun _ _=> .none
 |m+1=>fun Fk x=>sD hd k I t qu (fun qF q=>ku hd k I qu t k qF q) (nF hd k I t qu m) Fk x
def xg (hd:fK S) (k:Nat) (I:Int->OS S) (t:Tm) (qu:Int) (J1:Int->Int->OS S):OS S:=J1 0 0
def Ak (hd:fK S) (k:Nat) (I:Int->OS S) (t:Tm) (qu:Int):Nat->OS S
 |0=> .none
 |_+1=>xg hd k I t qu (fun Fk q=>nF hd k I t qu k Fk q)
def BU (hd:fK S) (k:Nat) (I:Int->OS S) (J0:OS S) (t:Tm) (qu:Int):OS S:=ab (t.k==1) (ab (t.n==qu) (I 1) (J0)) (J0)
def gz:Nat->Tm->Int->(Int->OS S)->OS S
 |0=>fun _ _ _=> .none
 |k+1=>fun t qu I=>BU (gz k) k I (Ak (gz k) k I t qu k) t qu
def w9 (k:Nat) (I:Int->OS S) (l:List (LC)) (q:Int->OS S) (x:Int):OS S:=ab (decide ((x:Int)<(l.length:Int))) (oa (af l x) fun x1=>aa k (hY k x1) fun z=>ab (!z) (I 2) (q (ot .i64 (x+1)))) (I 0)
def qi (k:Nat) (I:Int->OS S) (l:List (LC)):Nat->Int->OS S
 |0=>fun _=> .none
 |m+1=>fun q=>w9 k I l (qi k I l m) q
def HT (k:Nat) (I:Int->OS S) (J0:Int->OS S) (l:List (LC)):OS S:=J0 0
def pi (k:Nat) (l:List (LC)) (I:Int->OS S):OS S:=HT k I (fun q=>qi k I l k q) l
def tK (k:Nat) (I:LC->OS S):OS S:=I ([]:LC)
def pn (k:Nat) (i:Int) (I:Int->OS S):OS S:=oa (bR (0<=(ot .u64 (if 24<i then 24 else i)))) fun x1=>I (ot .u32 (ot .u64 ((ot .u64 (1*2^min (zk (ot .u64 (if 24<i then 24 else i))) 64))-1)))
def lx (k:Nat) (s oE qx:Int) (I:Int×Int->OS S):OS S:=ab (decide ((oE:Int)<0)) (I (0,2)) (ab (decide ((qx:Int)<0)) (I (0,2)) (aa k (pn k oE) fun r1=>aa k (pn k oE) fun q=>ab ((ot .u64 (bj .andNot .u32 (bj .and .u32 s 16777215) q))==0) (I (bj .and .u32 (bj .and .u32 s 16777215) r1,0)) (ab (decide ((qx:Int)>=24)) (I (0,10)) (oa (bR (0<=(ot .u64 qx))) fun x3=>ab (decide ((ot .u64 ((ot .u64 (bj .andNot .u32 (bj .and .u32 s 16777215) q))*2^min (zk (ot .u64 qx)) 64):Int)>16777215)) (I (0,10)) (oa (bR (0<=(ot .u64 qx))) fun x4=>I (bj .or .u32 (bj .and .u32 (bj .and .u32 s 16777215) r1) (ot .u32 (ot .u64 ((ot .u64 (bj .andNot .u32 (bj .and .u32 s 16777215) q))*2^min (zk (ot .u64 qx)) 64))),0))))))
def yD (k:Nat) (c:Cl) (oE qx:Int) (I:Cl×Int->OS S):OS S:=aa k (tC k c) fun r1=>ab (!r1) (I ((Cl.mk 0 0),2)) (aa k (lx k c.pos oE qx) fun q=>ab (!(q.2==0)) (I ((Cl.mk 0 0),q.2)) (aa k (lx k c.neg oE qx) fun x=>ab (!(x.2==0)) (I ((Cl.mk 0 0),x.2)) (I ((Cl.mk q.1 x.1),0))))
def DN (k:Nat) (sW:LC) (c:Cl) (c0 c1:Int) (I:LC×Int->OS S):OS S:=aa k (yD k c c0 c1) fun r1=>oa (aw 1099511627776 sW.length [r1.1].length) fun x2=>I (sW++[r1.1],r1.2)
def o' (k:Nat) (I:LC×Int->OS S) (c0 c1:Int) (l:LC) (x:(LC)->Int->OS S) (v1:LC) (q:Int):OS S:=ab (decide ((q:Int)<(l.length:Int))) (oa (af l q) fun x1=>aa k (DN k v1 x1 c0 c1) fun z=>ab (!(z.2==0)) (I (([]:LC),z.2)) (x z.1 (ot .i64 (q+1)))) (I (v1,0))
def qf (k:Nat) (I:LC×Int->OS S) (c0 c1:Int) (l:LC):Nat->(LC)->Int->OS S
 |0=>fun _ _=> .none
 |m+1=>fun v1 q=>o' k I c0 c1 l (qf k I c0 c1 l m) v1 q
def HQ (k:Nat) (I:LC×Int->OS S) (J0:(LC)->Int->OS S) (l oE:LC) (c0 c1:Int):OS S:=J0 oE 0
def yT (k:Nat) (l oE:LC) (c0 c1:Int) (I:LC×Int->OS S):OS S:=HQ k I (fun v1 q=>qf k I c0 c1 l k v1 q) l oE c0 c1
def jV (k:Nat) (f:LC) (oE qx:Int) (I:LC×Int->OS S):OS S:=aa k (pi k [f]) fun r1=>ab (!(r1==0)) (I (([]:LC),r1)) (aa k (tK k) fun z=>aa k (yT k f z oE qx) fun q=>ab (!(q.2==0)) (I (([]:LC),q.2)) (aa k (gy k q.1) fun x=>I (x.1,x.2)))
def tN (k:Nat) (l_0 l_1:Int) (f:LC) (oE:Int) (I:px Int (LC)->OS S):OS S:=ab (l_1==0) (oa (aw 1099511627776 0 f.length) fun x1=>I (.ok f)) (ab (decide ((oE:Int)>=24)) (oa (aw 1099511627776 0 f.length) fun x2=>I (.ok f)) (aa k (jV k f oE l_1) fun q=>ab (!(q.2==0)) (I (.bD q.2)) (I (.ok q.1))))
abbrev fJ (S:Type):=Int->Int->Tm->Int->Int->(px Int Tm->OS S)->OS S
def xe (hd:fJ S) (k:Nat) (I:px Int Tm->OS S) (Al:LC) (l_0 l_1:Int) (t:Tm) (T:Int) (r2:LC) (O:LT) (B:LB) (E:(Br Tm)) (x v d xk:Int) (F:(LB)->Int->Int->OS S) (J:(LT)->Int->OS S) (q:LT) (z:Int):OS S:=ab (decide ((z:Int)<(E.c.length:Int))) (oa (af E.c z) fun L=>hd l_0 l_1 (ac L) v (ot .i64 (d+x)) fun A=>px.elim A (fun A=>oa (aw 1099511627776 q.length [(ac A)].length) fun W=>J (q++[(ac A)]) (ot .i64 (z+1))) (fun M=>I (.bD M))) (oa (aw 1099511627776 B.length [(Br.mk Al q)].length) fun Y=>F (B++[(Br.mk Al q)]) x (ot .i64 (xk+1)))
def l7 (hd:fJ S) (k:Nat) (I:px Int Tm->OS S) (x:(LB)->Int->Int->OS S) (Al:LC) (l_0 l_1:Int) (t:Tm) (E:Int) (r2:LC) (z:LT) (A:LB) (F:(Br Tm)) (q v d xk:Int):Nat->(LT)->Int->OS S
 |0=>fun _ _=> .none
 |m+1=>fun B J=>xe hd k I Al l_0 l_1 t E r2 z A F q v d xk x (l7 hd k I x Al l_0 l_1 t E r2 z A F q v d xk m) B J
def sA (hd:fJ S) (k:Nat) (I:px Int Tm->OS S) (l_0 l_1:Int) (t:Tm) (E:Int) (r2:LC) (A:LT) (v d:Int) (J3:(LC)->(LB)->(Br Tm)->Int->Int->(LT)->Int->OS S) (J:(LB)->Int->Int->OS S) (x:LB) (q xk:Int):OS S:=ab (decide ((xk:Int)<(t.s.length:Int))) (oa (af t.s xk) fun B=>aa k (tN k l_0 l_1 B.f d) fun z=>px.elim z (fun z=>J3 z x B q xk ([]:LT) 0) (fun F=>I (.bD F))) (I (.ok (Tm.mk t.k E t.name r2 A x)))
def Mq (hd:fJ S) (k:Nat) (I:px Int Tm->OS S) (l_0 l_1:Int) (t:Tm) (A:Int) (r2:LC) (x:LT) (v d:Int):Nat->(LB)->Int->Int->OS S
 |0=>fun _ _ _=> .none
 |m+1=>fun z q B=>sA hd k I l_0 l_1 t A r2 x v d (fun J z L q B E F=>l7 hd k I (Mq hd k I l_0 l_1 t A r2 x v d m) J l_0 l_1 t A r2 x z L q v d B k E F) (Mq hd k I l_0 l_1 t A r2 x v d m) z q B
def sz (hd:fJ S) (k:Nat) (I:px Int Tm->OS S) (l_0 l_1:Int) (t:Tm) (E:Int) (r2:LC) (v d:Int) (J2:(LT)->(LB)->Int->Int->OS S) (z:(LT)->Int->OS S) (q:LT) (x:Int):OS S:=ab (decide ((x:Int)<(t.c.length:Int))) (oa (af t.c x) fun x4=>aa k (gI k t.k x) fun B=>hd l_0 l_1 (ac x4) (ot .i64 (v+B.1)) (ot .i64 (d+B.2)) fun A=>px.elim A (fun A=>oa (aw 1099511627776 q.length [(ac A)].length) fun J=>z (q++[(ac A)]) (ot .i64 (x+1))) (fun F=>I (.bD F))) (ab (t.k==15) (J2 q ([]:LB) 1 0) (J2 q ([]:LB) 0 0))
def M9 (hd:fJ S) (k:Nat) (I:px Int Tm->OS S) (l_0 l_1:Int) (t:Tm) (z:Int) (r2:LC) (v d:Int):Nat->(LT)->Int->OS S
 |0=>fun _ _=> .none
 |m+1=>fun q B=>sz hd k I l_0 l_1 t z r2 v d (fun q A x E=>Mq hd k I l_0 l_1 t z r2 q v d k A x E) (M9 hd k I l_0 l_1 t z r2 v d m) q B
def Da (hd:fJ S) (k:Nat) (I:px Int Tm->OS S) (l_0 l_1:Int) (t:Tm) (r2:LC) (v d:Int) (J1:Int->(LT)->Int->OS S) (q:Int):OS S:=J1 q ([]:LT) 0
def uJ (hd:fJ S) (k:Nat) (I:px Int Tm->OS S) (l_0 l_1:Int) (t:Tm) (r2:LC) (v d:Int):Nat->Int->OS S
 |0=>fun _=> .none
 |_+1=>fun q=>Da hd k I l_0 l_1 t r2 v d (fun q x z=>M9 hd k I l_0 l_1 t q r2 v d k x z) q
def HY (hd:fJ S) (k:Nat) (I:px Int Tm->OS S) (J0:(LC)->Int->OS S) (l_0 l_1:Int) (t:Tm) (v d:Int):OS S:=aa k (tN k l_0 l_1 t.r d) fun q=>px.elim q (fun q=>ab (t.k==1) (ab (decide ((t.n:Int)>=v)) (ab (decide ((t.n:Int)>(ot .i64 (1000000000-l_0)))) (I (.bD 100)) (J0 q (ot .i64 (t.n+l_0)))) (J0 q t.n)) (J0 q t.n)) (fun x=>I (.bD x))
def dk:Nat->Int->Int->Tm->Int->Int->(px Int Tm->OS S)->OS S
 |0=>fun _ _ _ _ _ _=> .none
 |k+1=>fun l_0 l_1 t v d I=>HY (dk k) k I (fun x q=>uJ (dk k) k I l_0 l_1 t x v d k q) l_0 l_1 t v d
def yW (k:Nat) (c0 c1:Int) (c2:Tm) (I:px Int Tm->OS S):OS S:=dk k c1 0 (ac c2) 0 0 fun q=>px.elim q (fun q=>dk k 0 c0 (ac q) 0 0 fun x=>px.elim x (fun x=>I (.ok (ac x))) (fun z=>I (.bD z))) (fun A=>I (.bD A))
def xd (k:Nat) (I:Tm×Int->OS S) (c0 c1:Int) (c2:Tm) (numbers:List Int) (x:Int->OS S) (q:Int):OS S:=ab (decide ((q:Int)<(numbers.length:Int))) (oa (af numbers q) fun x2=>ab (decide ((x2:Int)<0)) (I ((Tm.mk 0 0 pf [] [] []),2)) (x (ot .i64 (q+1)))) (aa k (yW k c0 c1 (ac c2)) fun z=>px.elim z (fun z=>I ((ac z),0)) (fun A=>I ((Tm.mk 0 0 pf [] [] []),A)))
def nE (k:Nat) (I:Tm×Int->OS S) (c0 c1:Int) (c2:Tm) (numbers:List Int):Nat->Int->OS S
 |0=>fun _=> .none
 |m+1=>fun q=>xd k I c0 c1 c2 numbers (nE k I c0 c1 c2 numbers m) q
def BS (k:Nat) (I:Tm×Int->OS S) (J0:Int->OS S) (t:Tm) (numbers:List Int) (c0 c1:Int) (c2:Tm):OS S:=aa k (DS k (ac t)) fun r1=>ab (!(r1==0)) (I ((Tm.mk 0 0 pf [] [] []),r1)) (J0 0)
def y7 (k:Nat) (t:Tm) (numbers:List Int) (c0 c1:Int) (c2:Tm) (I:Tm×Int->OS S):OS S:=BS k I (fun q=>nE k I c0 c1 c2 numbers k q) t numbers c0 c1 c2
def lu (k:Nat) (t:Tm) (vars nV:Int) (I:Tm×Int->OS S):OS S:=aa k (y7 k (ac t) [vars,nV,ot .i64 (1000000-vars)] nV vars (ac t)) fun r1=>I ((ac r1.1),r1.2)
def ze (k:Nat) (t:Tm) (I:Int->OS S):OS S:=ab (t.k==15) (I 1) (I 0)
abbrev gX (S:Type):=Tm->Int->Tm->Int->Int->(px Int Tm->OS S)->OS S
def xj (hd:gX S) (k:Nat) (I:px Int Tm->OS S) (t:Tm) (F:LT) (x:LB) (E:(Br Tm)) (u:Tm) (qu vars nV J:Int) (A:(LB)->Int->OS S) (B:(LT)->Int->OS S) (q:LT) (z:Int):OS S:=ab (decide ((z:Int)<(E.c.length:Int))) (oa (af E.c z) fun L=>aa k (ze k (ac t)) fun M=>hd (ac L) qu (ac u) vars (ot .i64 (nV+M)) fun r14=>px.elim r14 (fun r14=>oa (aw 1099511627776 q.length [(ac r14)].length) fun T=>B (q++[(ac r14)]) (ot .i64 (z+1))) (fun O=>I (.bD O))) (oa (aw 1099511627776 x.length [(Br.mk E.f q)].length) fun W=>A (x++[(Br.mk E.f q)]) (ot .i64 (J+1)))
def Sk (hd:gX S) (k:Nat) (I:px Int Tm->OS S) (z:(LB)->Int->OS S) (t:Tm) (q:LT) (x:LB) (F:(Br Tm)) (u:Tm) (qu vars nV B:Int):Nat->(LT)->Int->OS S
 |0=>fun _ _=> .none
 |m+1=>fun A E=>xj hd k I t q x F u qu vars nV B z (Sk hd k I z t q x F u qu vars nV B m) A E
def hL (hd:gX S) (k:Nat) (I:px Int Tm->OS S) (t:Tm) (x:LT) (u:Tm) (qu vars nV:Int) (J2:(LB)->(Br Tm)->Int->(LT)->Int->OS S) (A:(LB)->Int->OS S) (q:LB) (z:Int):OS S:=ab (decide ((z:Int)<(t.s.length:Int))) (oa (af t.s z) fun B=>oa (aw 1099511627776 0 B.f.length) fun E=>J2 q B z ([]:LT) 0) (I (.ok (Tm.mk t.k 0 t.name t.r x q)))
def kw (hd:gX S) (k:Nat) (I:px Int Tm->OS S) (t:Tm) (q:LT) (u:Tm) (qu vars nV:Int):Nat->(LB)->Int->OS S
 |0=>fun _ _=> .none
 |m+1=>fun x z=>hL hd k I t q u qu vars nV (fun x E z A B=>Sk hd k I (kw hd k I t q u qu vars nV m) t q x E u qu vars nV z k A B) (kw hd k I t q u qu vars nV m) x z
def s7 (hd:gX S) (k:Nat) (I:px Int Tm->OS S) (t u:Tm) (qu vars nV:Int) (J1:(LT)->(LB)->Int->OS S) (x:(LT)->Int->OS S) (q:LT) (FJ:Int):OS S:=ab (decide ((FJ:Int)<(t.c.length:Int))) (oa (af t.c FJ) fun x3=>aa k (gI k t.k FJ) fun A=>hd (ac x3) qu (ac u) (ot .i64 (vars+A.1)) (ot .i64 (nV+A.2)) fun z=>px.elim z (fun z=>oa (aw 1099511627776 q.length [(ac z)].length) fun E=>x (q++[(ac z)]) (ot .i64 (FJ+1))) (fun B=>I (.bD B))) (J1 q ([]:LB) 0)
def qj (hd:gX S) (k:Nat) (I:px Int Tm->OS S) (t u:Tm) (qu vars nV:Int):Nat->(LT)->Int->OS S
 |0=>fun _ _=> .none
 |m+1=>fun q FJ=>s7 hd k I t u qu vars nV (fun q x z=>kw hd k I t q u qu vars nV k x z) (qj hd k I t u qu vars nV m) q FJ
def H2 (hd:gX S) (k:Nat) (I:px Int Tm->OS S) (J0:(LT)->Int->OS S) (t:Tm) (qu:Int) (u:Tm) (vars nV:Int):OS S:=ab (t.k==1) (ab (t.n==(ot .i64 (qu+vars))) (aa k (lu k (ac u) vars nV) fun r1=>ab (!(r1.2==0)) (I (.bD r1.2)) (I (.ok (ac r1.1)))) (ab (decide ((t.n:Int)>(ot .i64 (qu+vars)))) (I (.ok (Tm.mk 1 (ot .i64 (t.n-1)) pf [] [] []))) (I (.ok (ac t))))) (oa (aw 1099511627776 0 t.r.length) fun x2=>J0 ([]:LT) 0)
def gA:Nat->Tm->Int->Tm->Int->Int->(px Int Tm->OS S)->OS S
 |0=>fun _ _ _ _ _ _=> .none
 |k+1=>fun t qu u vars nV I=>H2 (gA k) k I (fun q FJ=>qj (gA k) k I t u qu vars nV k q FJ) t qu u vars nV
abbrev dp (S:Type):=Tm->(Int->OS S)->OS S
def hU (hd:dp S) (k:Nat) (Dd:Tm) (p q c0:Int) (I:Bool×Int->OS S):OS S:=hd (ac Dd) fun r1=>I (true,if r1>c0 then r1 else c0)
def yk (hd:dp S) (k:Nat) (I:Bool×Int->OS S) (t:Tm) (oI:Int) (x4:(Br Tm)) (q:Int) (x:Int->Int->Int->OS S) (z:Int->Int->OS S) (qE qF:Int):OS S:=ab (decide ((qF:Int)<(x4.c.length:Int))) (oa (af x4.c qF) fun x5=>aa k (hU hd k (ac x5) 0 q qE) fun A=>ab (!A.1) (I (false,A.2)) (z A.2 (ot .i64 (qF+1)))) (x qE (ot .i64 (oI+1)) q)
def n5 (hd:dp S) (k:Nat) (I:Bool×Int->OS S) (x:Int->Int->Int->OS S) (t:Tm) (oI:Int) (x4:(Br Tm)) (q:Int):Nat->Int->Int->OS S
 |0=>fun _ _=> .none
 |m+1=>fun qE qF=>yk hd k I t oI x4 q x (n5 hd k I x t oI x4 q m) qE qF
def tu (hd:dp S) (k:Nat) (I:Bool×Int->OS S) (t:Tm) (J2:Int->(Br Tm)->Int->Int->Int->OS S) (x:Int->Int->Int->OS S) (qw oI q:Int):OS S:=ab (decide ((oI:Int)<(t.s.length:Int))) (oa (af t.s oI) fun x4=>J2 oI x4 q qw 0) (I (true,qw))
def kN (hd:dp S) (k:Nat) (I:Bool×Int->OS S) (t:Tm):Nat->Int->Int->Int->OS S
 |0=>fun _ _ _=> .none
 |m+1=>fun qw oI q=>tu hd k I t (fun oI x4 q qE qF=>n5 hd k I (kN hd k I t m) t oI x4 q k qE qF) (kN hd k I t m) qw oI q
def hZ (hd:dp S) (k:Nat) (I:Bool×Int->OS S) (t:Tm) (J1:Int->Int->Int->OS S) (x:Int->Int->OS S) (q ox:Int):OS S:=ab (decide ((ox:Int)<(t.c.length:Int))) (oa (af t.c ox) fun x1=>aa k (gI k t.k ox) fun A=>aa k (hU hd k (ac x1) A.1 A.2 q) fun z=>ab (!z.1) (I (false,z.2)) (x z.2 (ot .i64 (ox+1)))) (ab (t.k==15) (J1 q 0 1) (J1 q 0 0))
def l4 (hd:dp S) (k:Nat) (I:Bool×Int->OS S) (t:Tm):Nat->Int->Int->OS S
 |0=>fun _ _=> .none
 |m+1=>fun x ox=>hZ hd k I t (fun qw oI q=>kN hd k I t k qw oI q) (l4 hd k I t m) x ox
def IX (hd:dp S) (k:Nat) (I:Bool×Int->OS S) (J0:Int->Int->OS S) (t:Tm) (c0:Int):OS S:=J0 c0 0
def DZ (hd:dp S) (k:Nat) (t:Tm) (c0:Int) (I:Bool×Int->OS S):OS S:=IX hd k I (fun q ox=>l4 hd k I t k q ox) t c0
def TO (hd:dp S) (k:Nat) (I:Int->OS S) (t:Tm):OS S:=aa k (DZ hd k (ac t) 0) fun r1=>I (ot .i64 (r1.2+1))
def j5:Nat->Tm->(Int->OS S)->OS S
 |0=>fun _ _=> .none
 |k+1=>fun t I=>TO (j5 k) k I t
def zd (k:Nat) (t:Tm) (qu:Int) (u:Tm) (I:Tm×Int->OS S):OS S:=aa k (DS k (ac t)) fun r1=>ab (!(r1==0)) (I ((Tm.mk 0 0 pf [] [] []),r1)) (aa k (DS k (ac u)) fun x=>ab (!(x==0)) (I ((Tm.mk 0 0 pf [] [] []),x)) (ab (decide ((qu:Int)<0)) (I ((Tm.mk 0 0 pf [] [] []),2)) (j6 k (ac t) fun z=>gz k (ac t) (if 1099511627776<qu then 1099511627776 else qu) fun A=>j6 k (ac u) fun B=>ab (decide ((ot .i64 (z+(ot .i64 (A*(ot .i64 (B-1))))):Int)>20000)) (I ((Tm.mk 0 0 pf [] [] []),221)) (gA k (ac t) (if 1099511627776<qu then 1099511627776 else qu) (ac u) 0 0 fun q=>px.elim q (fun q=>j5 k (ac q) fun E=>ab (decide ((E:Int)>200)) (I ((Tm.mk 0 0 pf [] [] []),62)) (I ((ac q),0))) (fun F=>I ((Tm.mk 0 0 pf [] [] []),F))))))
def Hv (k:Nat) (t:Tm) (xx c0:Int) (I:Tm×Int->OS S):OS S:=ab (c0==0) (ab (!(xx==0)) (I ((Tm.mk 0 0 pf [] [] []),xx)) (I ((ac t),xx))) (ab (!(c0==0)) (I ((Tm.mk 0 0 pf [] [] []),c0)) (I ((ac t),c0)))
def za (k:Nat) (t u:Tm) (c0:Int) (I:Tm×Int->OS S):OS S:=aa k (dG k c0) fun r1=>ab (!r1) (I ((Tm.mk 0 0 pf [] [] []),c0)) (aa k (zd k (ac t) 0 (ac u)) fun q=>aa k (Hv k (ac q.1) q.2 c0) fun x=>I ((ac x.1),x.2))
def cW (k:Nat) (b:(Br Tm)) (I:Bool->OS S):OS S:=ab ((b.f.length:Int)==1) (oa (af b.f 0) fun x1=>I ((x1.pos==0)&&((x1.neg==0)&&true))) (I false)
def cm (k:Nat) (I:Int->OS S) (s:LB) (q:Int->OS S) (x:Int):OS S:=ab (decide ((x:Int)<(s.length:Int))) (oa (af s x) fun x1=>aa k (cW k x1) fun z=>ab (z) (I x) (q (ot .i64 (x+1)))) (I (-1))
def je (k:Nat) (I:Int->OS S) (s:LB):Nat->Int->OS S
 |0=>fun _=> .none
 |m+1=>fun q=>cm k I s (je k I s m) q
def aAn (k:Nat) (I:Int->OS S) (J0:Int->OS S) (s:LB):OS S:=J0 0
def cP (k:Nat) (s:LB) (I:Int->OS S):OS S:=aAn k I (fun q=>je k I s k q) s
def cS (k:Nat) (l:LB) (I:Int->OS S):OS S:=aa k (cP k l) fun r1=>I r1
def Nr (k:Nat) (I:LC->OS S):OS S:=I [(Cl.mk 0 0)]
def i_ (k:Nat) (s i:Int) (I:Int->OS S):OS S:=aa k (nd k i) fun r1=>ab (!r1) (I (bj .and .u32 s 16777215)) (oa (bR (0<=(ot .u64 i))) fun x2=>I (bj .or .u32 (bj .and .u32 s 16777215) (ot .u32 (1*2^min (zk (ot .u64 i)) 32))))
def JH (k:Nat) (sQ:Int) (I:Int->OS S):OS S:=oa (af (ByteArray.mk #[0,1,1,2,1,2,2,3,1,2,2,3,2,3,3,4,1,2,2,3,2,3,3,4,2,3,3,4,3,4,4,5,1,2,2,3,2,3,3,4,2,3,3,4,3,4,4,5,2,3,3,4,3,4,4,5,3,4,4,5,4,5,5,6,1,2,2,3,2,3,3,4,2,3,3,4,3,4,4,5,2,3,3,4,3,4,4,5,3,4,4,5,4,5,5,6,2,3,3,4,3,4,4,5,3,4,4,5,4,5,5,6,3,4,4,5,4,5,5,6,4,5,5,6,5,6,6,7,1,2,2,3,2,3,3,4,2,3,3,4,3,4,4,5,2,3,3,4,3,4,4,5,3,4,4,5,4,5,5,6,2,3,3,4,3,4,4,5,3,4,4,5,4,5,5,6,3,4,4,5,4,5,5,6,4,5,5,6,5,6,6,7,2,3,3,4,3,4,4,5,3,4,4,5,4,5,5,6,3,4,4,5,4,5,5,6,4,5,5,6,5,6,6,7,3,4,4,5,4,5,5,6,4,5,5,6,5,6,6,7,4,5,5,6,5,6,6,7,5,6,6,7,6,7,7,8]).data.toList (Int.fdiv sQ (2^min (zk 24) 32))) fun x1=>oa (af (ByteArray.mk #[0,1,1,2,1,2,2,3,1,2,2,3,2,3,3,4,1,2,2,3,2,3,3,4,2,3,3,4,3,4,4,5,1,2,2,3,2,3,3,4,2,3,3,4,3,4,4,5,2,3,3,4,3,4,4,5,3,4,4,5,4,5,5,6,1,2,2,3,2,3,3,4,2,3,3,4,3,4,4,5,2,3,3,4,3,4,4,5,3,4,4,5,4,5,5,6,2,3,3,4,3,4,4,5,3,4,4,5,4,5,5,6,3,4,4,5,4,5,5,6,4,5,5,6,5,6,6,7,1,2,2,3,2,3,3,4,2,3,3,4,3,4,4,5,2,3,3,4,3,4,4,5,3,4,4,5,4,5,5,6,2,3,3,4,3,4,4,5,3,4,4,5,4,5,5,6,3,4,4,5,4,5,5,6,4,5,5,6,5,6,6,7,2,3,3,4,3,4,4,5,3,4,4,5,4,5,5,6,3,4,4,5,4,5,5,6,4,5,5,6,5,6,6,7,3,4,4,5,4,5,5,6,4,5,5,6,5,6,6,7,4,5,5,6,5,6,6,7,5,6,6,7,6,7,7,8]).data.toList (bj .and .u32 (Int.fdiv sQ (2^min (zk 16) 32)) 255)) fun x2=>oa (af (ByteArray.mk #[0,1,1,2,1,2,2,3,1,2,2,3,2,3,3,4,1,2,2,3,2,3,3,4,2,3,3,4,3,4,4,5,1,2,2,3,2,3,3,4,2,3,3,4,3,4,4,5,2,3,3,4,3,4,4,5,3,4,4,5,4,5,5,6,1,2,2,3,2,3,3,4,2,3,3,4,3,4,4,5,2,3,3,4,3,4,4,5,3,4,4,5,4,5,5,6,2,3,3,4,3,4,4,5,3,4,4,5,4,5,5,6,3,4,4,5,4,5,5,6,4,5,5,6,5,6,6,7,1,2,2,3,2,3,3,4,2,3,3,4,3,4,4,5,2,3,3,4,3,4,4,5,3,4,4,5,4,5,5,6,2,3,3,4,3,4,4,5,3,4,4,5,4,5,5,6,3,4,4,5,4,5,5,6,4,5,5,6,5,6,6,7,2,3,3,4,3,4,4,5,3,4,4,5,4,5,5,6,3,4,4,5,4,5,5,6,4,5,5,6,5,6,6,7,3,4,4,5,4,5,5,6,4,5,5,6,5,6,6,7,4,5,5,6,5,6,6,7,5,6,6,7,6,7,7,8]).data.toList (bj .and .u32 (Int.fdiv sQ (2^min (zk 8) 32)) 255)) fun x3=>oa (af (ByteArray.mk #[0,1,1,2,1,2,2,3,1,2,2,3,2,3,3,4,1,2,2,3,2,3,3,4,2,3,3,4,3,4,4,5,1,2,2,3,2,3,3,4,2,3,3,4,3,4,4,5,2,3,3,4,3,4,4,5,3,4,4,5,4,5,5,6,1,2,2,3,2,3,3,4,2,3,3,4,3,4,4,5,2,3,3,4,3,4,4,5,3,4,4,5,4,5,5,6,2,3,3,4,3,4,4,5,3,4,4,5,4,5,5,6,3,4,4,5,4,5,5,6,4,5,5,6,5,6,6,7,1,2,2,3,2,3,3,4,2,3,3,4,3,4,4,5,2,3,3,4,3,4,4,5,3,4,4,5,4,5,5,6,2,3,3,4,3,4,4,5,3,4,4,5,4,5,5,6,3,4,4,5,4,5,5,6,4,5,5,6,5,6,6,7,2,3,3,4,3,4,4,5,3,4,4,5,4,5,5,6,3,4,4,5,4,5,5,6,4,5,5,6,5,6,6,7,3,4,4,5,4,5,5,6,4,5,5,6,5,6,6,7,4,5,5,6,5,6,6,7,5,6,6,7,6,7,7,8]).data.toList (bj .and .u32 sQ 255)) fun x4=>I (ot .i64 (ot .u8 ((ot .u8 ((ot .u8 ((x1.toNat:Int)+(x2.toNat:Int)))+(x3.toNat:Int)))+(x4.toNat:Int))))
def lw (k:Nat) (s:Int) (I:Int->OS S):OS S:=aa k (JH k (bj .and .u32 s 16777215)) fun r1=>I r1
def yE (k:Nat) (i:Int) (I:Bool->OS S):OS S:=aa k (i_ k 0 i) fun r1=>aa k (lw k r1) fun q=>I (q==1)
def DM (k:Nat) (t:Tm) (i:Int) (rf:LC) (I:Int->OS S):OS S:=aa k (DS k (ac t)) fun r1=>ab (!(r1==0)) (I r1) (aa k (yE k i) fun q=>ab (!q) (I 2) (aa k (hY k rf) fun x=>ab (!x) (I 2) (I 0)))
def DG (k:Nat) (c0:Int) (c1:LC) (I:Unit->OS S):OS S:=I ()
def DH (k:Nat) (c0:Int) (c1:LC) (I:Unit->OS S):OS S:=I ()
def DF (k:Nat) (i:Int) (rf:LC) (I:Int×LC->OS S):OS S:=aa k (DG k i rf) fun r1=>aa k (DH k i rf) fun q=>I (i,rf)
def Mh (k:Nat) (s i:Int) (I:Bool->OS S):OS S:=aa k (nd k i) fun r1=>ab (r1) (oa (bR (0<=(ot .u64 i))) fun x2=>I ((bj .and .u32 (Int.fdiv s (2^min (zk (ot .u64 i)) 32)) 1)==1)) (I false)
def tD (k:Nat) (f:LC) (I:LC->OS S):OS S:=oa (aw 1099511627776 0 f.length) fun x1=>I f
def yK (k:Nat) (i:Int) (I:Bool->OS S):OS S:=aa k (i_ k 0 i) fun r1=>aa k (lw k r1) fun q=>I (q==1)
def tJ (k:Nat) (c:Cl) (I:Cl×Bool->OS S):OS S:=aa k (tB k c) fun r1=>I (c,!r1)
def wW (k:Nat) (I:LC->OS S) (l:LC) (x:Int->(LC)->OS S) (tg:Int) (q:LC):OS S:=ab (decide ((tg:Int)<(l.length:Int))) (oa (af l tg) fun x1=>aa k (tJ k x1) fun z=>ab (z.2) (oa (aw 1099511627776 q.length [z.1].length) fun x3=>x (ot .i64 (tg+1)) (q++[z.1])) (x (ot .i64 (tg+1)) q)) (I q)
def jg (k:Nat) (I:LC->OS S) (l:LC):Nat->Int->(LC)->OS S
 |0=>fun _ _=> .none
 |m+1=>fun tg q=>wW k I l (jg k I l m) tg q
def HJ (k:Nat) (I:LC->OS S) (J0:Int->(LC)->OS S) (l:LC):OS S:=J0 0 ([]:LC)
def yN (k:Nat) (l:LC) (I:LC->OS S):OS S:=HJ k I (fun tg q=>jg k I l k tg q) l
def tI (k:Nat) (f:LC) (I:LC×Int->OS S):OS S:=aa k (hY k f) fun r1=>ab (!r1) (I (([]:LC),2)) (aa k (yN k f) fun x=>aa k (gy k x) fun q=>I (q.1,q.2))
def yO (k:Nat) (b c0:Cl) (I:Cl×Bool->OS S):OS S:=aa k (pb k c0 b) fun r1=>aa k (tJ k r1) fun q=>I (q.1,q.2)
def wV (k:Nat) (I:LC->OS S) (c0:Cl) (l:LC) (x:Int->(LC)->OS S) (tg:Int) (q:LC):OS S:=ab (decide ((tg:Int)<(l.length:Int))) (oa (af l tg) fun x1=>aa k (yO k x1 c0) fun z=>ab (z.2) (oa (aw 1099511627776 q.length [z.1].length) fun x3=>x (ot .i64 (tg+1)) (q++[z.1])) (x (ot .i64 (tg+1)) q)) (I q)
def p8 (k:Nat) (I:LC->OS S) (c0:Cl) (l:LC):Nat->Int->(LC)->OS S
 |0=>fun _ _=> .none
 |m+1=>fun tg q=>wV k I c0 l (p8 k I c0 l m) tg q
def HI (k:Nat) (I:LC->OS S) (J0:Int->(LC)->OS S) (l:LC) (c0:Cl):OS S:=J0 0 ([]:LC)
def yM (k:Nat) (l:LC) (c0:Cl) (I:LC->OS S):OS S:=HI k I (fun tg q=>p8 k I c0 l k tg q) l c0
def wX (k:Nat) (I:LC×Int->OS S) (g f:LC) (x:Int->(LC)->OS S) (zr:Int) (q:LC):OS S:=ab (decide ((zr:Int)<(f.length:Int))) (oa (af f zr) fun x1=>aa k (yM k g x1) fun z=>oa (aw 1099511627776 q.length z.length) fun x3=>x (ot .i64 (zr+1)) (q++z)) (aa k (gy k q) fun A=>I (A.1,A.2))
def p_ (k:Nat) (I:LC×Int->OS S) (g f:LC):Nat->Int->(LC)->OS S
 |0=>fun _ _=> .none
 |m+1=>fun zr q=>wX k I g f (p_ k I g f m) zr q
def HK (k:Nat) (I:LC×Int->OS S) (J0:Int->(LC)->OS S) (f g:LC):OS S:=J0 0 ([]:LC)
def pe (k:Nat) (f g:LC) (I:LC×Int->OS S):OS S:=HK k I (fun zr q=>p_ k I g f k zr q) f g
def yL (k:Nat) (f g:LC) (I:LC×Int->OS S):OS S:=oa (aw 1099511627776 ([]:LC).length f.length) fun x1=>oa (aw 1099511627776 (([]:LC)++f).length g.length) fun x2=>aa k (gy k ((([]:LC)++f)++g)) fun q=>I (q.1,q.2)
def w8 (k:Nat) (I:LC×Int->OS S) (r5:List Int) (x:Int->(LC)->OS S) (Ij:Int) (q:LC):OS S:=ab (decide ((Ij:Int)<(r5.length:Int))) (oa (af r5 Ij) fun x6=>aa k (i_ k 0 x6) fun z=>oa (aw 1099511627776 q.length [(Cl.mk z 0)].length) fun B=>x (ot .i64 (Ij+1)) (q++[(Cl.mk z 0)])) (aa k (gy k q) fun A=>I (A.1,A.2))
def Sp (k:Nat) (I:LC×Int->OS S) (r5:List Int):Nat->Int->(LC)->OS S
 |0=>fun _ _=> .none
 |m+1=>fun Ij q=>w8 k I r5 (Sp k I r5 m) Ij q
def q6 (k:Nat) (I:LC×Int->OS S) (c:Cl) (r1:List Int) (J1:(List Int)->Int->(LC)->OS S) (z:Int->(LC)->OS S) (x:Int) (q:LC):OS S:=ab (decide ((x:Int)<(r1.length:Int))) (oa (af r1 x) fun x2=>aa k (i_ k 0 x2) fun A=>oa (aw 1099511627776 q.length [(Cl.mk 0 A)].length) fun x4=>z (ot .i64 (x+1)) (q++[(Cl.mk 0 A)])) (vz c.neg fun B=>J1 B 0 q)
def qh (k:Nat) (I:LC×Int->OS S) (c:Cl) (r1:List Int):Nat->Int->(LC)->OS S
 |0=>fun _ _=> .none
 |m+1=>fun z x=>q6 k I c r1 (fun A Ij q=>Sp k I A k Ij q) (qh k I c r1 m) z x
def HS (k:Nat) (I:LC×Int->OS S) (J0:(List Int)->Int->(LC)->OS S) (c:Cl):OS S:=vz c.pos fun r1=>J0 r1 0 ([]:LC)
def yV (k:Nat) (c:Cl) (I:LC×Int->OS S):OS S:=HS k I (fun r1 x q=>qh k I c r1 k x q) c
def w7 (k:Nat) (I:LC×Int->OS S) (x1:Cl) (g f:LC) (B:Int) (z:Int->(LC)->OS S) (A:Int->(LC)->OS S) (x:Int) (q:LC):OS S:=ab (decide ((x:Int)<(g.length:Int))) (oa (af g x) fun x2=>aa k (pb k x1 x2) fun E=>oa (aw 1099511627776 q.length [E].length) fun x4=>A (ot .i64 (x+1)) (q++[E])) (z (ot .i64 (B+1)) q)
def nA (k:Nat) (I:LC×Int->OS S) (q:Int->(LC)->OS S) (x1:Cl) (g f:LC) (z:Int):Nat->Int->(LC)->OS S
 |0=>fun _ _=> .none
 |m+1=>fun A x=>w7 k I x1 g f z q (nA k I q x1 g f z m) A x
def l5 (k:Nat) (I:LC×Int->OS S) (g f:LC) (J1:Cl->Int->Int->(LC)->OS S) (z:Int->(LC)->OS S) (x:Int) (q:LC):OS S:=ab (decide ((x:Int)<(f.length:Int))) (oa (af f x) fun x1=>J1 x1 x 0 q) (aa k (gy k q) fun A=>I (A.1,A.2))
def lZ (k:Nat) (I:LC×Int->OS S) (g f:LC):Nat->Int->(LC)->OS S
 |0=>fun _ _=> .none
 |m+1=>fun q z=>l5 k I g f (fun x1 q A x=>nA k I (lZ k I g f m) x1 g f q k A x) (lZ k I g f m) q z
def HR (k:Nat) (I:LC×Int->OS S) (J0:Int->(LC)->OS S) (f g:LC):OS S:=J0 0 ([]:LC)
def jW (k:Nat) (f g:LC) (I:LC×Int->OS S):OS S:=HR k I (fun x q=>lZ k I g f k x q) f g
def yU (k:Nat) (sW:LC) (c:Cl) (I:LC×Int->OS S):OS S:=aa k (yV k c) fun r1=>ab (!(r1.2==0)) (I (([]:LC),r1.2)) (aa k (jW k sW r1.1) fun q=>I (q.1,q.2))
def hI (k:Nat) (I:LC×Int->OS S) (l:LC) (x:(LC)->Int->OS S) (v1:LC) (q:Int):OS S:=ab (decide ((q:Int)<(l.length:Int))) (oa (af l q) fun x1=>aa k (yU k v1 x1) fun z=>ab (!(z.2==0)) (I (([]:LC),z.2)) (x z.1 (ot .i64 (q+1)))) (I (v1,0))
def qe (k:Nat) (I:LC×Int->OS S) (l:LC):Nat->(LC)->Int->OS S
 |0=>fun _ _=> .none
 |m+1=>fun v1 q=>hI k I l (qe k I l m) v1 q
def HP (k:Nat) (I:LC×Int->OS S) (J0:(LC)->Int->OS S) (l oE:LC):OS S:=J0 oE 0
def DP (k:Nat) (l oE:LC) (I:LC×Int->OS S):OS S:=HP k I (fun v1 q=>qe k I l k v1 q) l oE
def ph (k:Nat) (f:LC) (I:LC×Int->OS S):OS S:=aa k (Nr k) fun r1=>aa k (DP k f r1) fun q=>I (q.1,q.2)
def yQ (k:Nat) (f:LC) (I:LC×Int->OS S):OS S:=aa k (pi k [f]) fun r1=>ab (!(r1==0)) (I (([]:LC),r1)) (aa k (ph k f) fun q=>I (q.1,q.2))
def yI (k:Nat) (f:LC) (I:LC×Int->OS S):OS S:=aa k (yQ k f) fun r1=>ab (!(r1.2==0)) (I (([]:LC),r1.2)) (aa k (tI k r1.1) fun q=>I (q.1,q.2))
def wU (k:Nat) (I:LC×Int->OS S) (i:Int) (rf f:LC) (A:Int) (B:LC) (q:Int->(LC)->OS S) (g11:LC) (x:Int):OS S:=ab (x==0) (aa k (yL k B g11) fun z=>ab (!(z.2==0)) (I (([]:LC),z.2)) (q (ot .i64 (A+1)) z.1)) (ab (!(x==0)) (I (([]:LC),x)) (q (ot .i64 (A+1)) B))
def gv (k:Nat) (I:LC×Int->OS S) (q:Int->(LC)->OS S) (i:Int) (rf f:LC) (x:Int) (A:LC):Nat->(LC)->Int->OS S
 |0=>fun _ _=> .none
 |_+1=>fun g11 z=>wU k I i rf f x A q g11 z
def mx (k:Nat) (I:LC×Int->OS S) (i:Int) (rf f:LC) (J1:Int->(LC)->(LC)->Int->OS S) (J:Int->(LC)->OS S) (q:Int) (z:LC):OS S:=ab (decide ((q:Int)<(f.length:Int))) (oa (af f q) fun x4=>aa k (jX k x4.pos i) fun A=>aa k (jX k x4.neg i) fun B=>aa k (Mh k x4.pos i) fun M=>ab (M) (aa k (tI k rf) fun E=>ab (E.2==0) (aa k (pe k [(Cl.mk A B)] E.1) fun L=>J1 q z L.1 L.2) (J1 q z [(Cl.mk A B)] E.2)) (aa k (Mh k x4.neg i) fun F=>ab (F) (aa k (yI k rf) fun x=>ab (x.2==0) (aa k (pe k [(Cl.mk A B)] x.1) fun r13=>J1 q z r13.1 r13.2) (J1 q z [(Cl.mk A B)] x.2)) (J1 q z [(Cl.mk A B)] 0))) (I (z,0))
def lY (k:Nat) (I:LC×Int->OS S) (i:Int) (rf f:LC):Nat->Int->(LC)->OS S
 |0=>fun _ _=> .none
 |m+1=>fun q x=>mx k I i rf f (fun q x g11 z=>gv k I (lY k I i rf f m) i rf f q x k g11 z) (lY k I i rf f m) q x
def HH (k:Nat) (I:LC×Int->OS S) (J0:Int->(LC)->OS S) (f:LC) (i:Int) (rf:LC):OS S:=aa k (pd k f) fun r1=>ab (!r1) (I (([]:LC),2)) (aa k (yK k i) fun q=>ab (!q) (I (([]:LC),2)) (aa k (hY k rf) fun x=>ab (!x) (I (([]:LC),2)) (J0 0 [])))
def yJ (k:Nat) (f:LC) (i:Int) (rf:LC) (I:LC×Int->OS S):OS S:=HH k I (fun q x=>lY k I i rf f k q x) f i rf
def tF (k:Nat) (f:LC) (depth c0:Int) (c1:LC) (I:LC×Int->OS S):OS S:=aa k (A' k f) fun r1=>aa k (Mh k r1 (ot .i64 (c0+depth))) fun z=>ab (!z) (aa k (tD k f) fun A=>I (A,0)) (aa k (jV k c1 0 depth) fun q=>ab (!(q.2==0)) (I (([]:LC),q.2)) (aa k (yJ k f (ot .i64 (c0+depth)) q.1) fun x=>I (x.1,x.2)))
def yP (k:Nat) (i:Int) (I:LC×Int->OS S):OS S:=aa k (i_ k 0 i) fun r1=>aa k (lw k r1) fun q=>ab (q==0) (I (([]:LC),2)) (aa k (i_ k 0 i) fun x=>I ([(Cl.mk x 0)],0))
def na (k:Nat) (f g:LC) (I:LC×Int->OS S):OS S:=oa (aw 1099511627776 ([]:LC).length f.length) fun x1=>oa (aw 1099511627776 (([]:LC)++f).length g.length) fun x2=>aa k (gy k ((([]:LC)++f)++g)) fun q=>I (q.1,q.2)
def yS (k:Nat) (sW:LC) (c:Cl) (c0:Int) (c1:LC) (I:LC×Int->OS S):OS S:=aa k (jX k c.pos c0) fun r1=>aa k (jX k c.neg c0) fun A=>aa k (Mh k c.pos c0) fun M=>ab (M) (aa k (jW k [(Cl.mk r1 A)] c1) fun z=>ab (!(z.2==0)) (I (([]:LC),z.2)) (aa k (Mh k c.neg c0) fun O=>ab (O) (aa k (ph k c1) fun B=>ab (!(B.2==0)) (I (([]:LC),B.2)) (aa k (jW k z.1 B.1) fun E=>ab (!(E.2==0)) (I (([]:LC),E.2)) (aa k (na k sW E.1) fun J=>I (J.1,J.2)))) (aa k (na k sW z.1) fun L=>I (L.1,L.2)))) (aa k (Mh k c.neg c0) fun F=>ab (F) (aa k (ph k c1) fun q=>ab (!(q.2==0)) (I (([]:LC),q.2)) (aa k (jW k [(Cl.mk r1 A)] q.1) fun x=>ab (!(x.2==0)) (I (([]:LC),x.2)) (aa k (na k sW x.1) fun r13=>I (r13.1,r13.2)))) (aa k (na k sW [(Cl.mk r1 A)]) fun r14=>I (r14.1,r14.2)))
def wZ (k:Nat) (I:LC×Int->OS S) (c0:Int) (c1 l:LC) (x:(LC)->Int->OS S) (v1:LC) (q:Int):OS S:=ab (decide ((q:Int)<(l.length:Int))) (oa (af l q) fun x1=>aa k (yS k v1 x1 c0 c1) fun z=>ab (!(z.2==0)) (I (([]:LC),z.2)) (x z.1 (ot .i64 (q+1)))) (I (v1,0))
def qc (k:Nat) (I:LC×Int->OS S) (c0:Int) (c1 l:LC):Nat->(LC)->Int->OS S
 |0=>fun _ _=> .none
 |m+1=>fun v1 q=>wZ k I c0 c1 l (qc k I c0 c1 l m) v1 q
def HO (k:Nat) (I:LC×Int->OS S) (J0:(LC)->Int->OS S) (l oE:LC) (c0:Int) (c1:LC):OS S:=J0 oE 0
def DO (k:Nat) (l oE:LC) (c0:Int) (c1:LC) (I:LC×Int->OS S):OS S:=HO k I (fun v1 q=>qc k I c0 c1 l k v1 q) l oE c0 c1
def yR (k:Nat) (f:LC) (i:Int) (rf:LC) (I:LC×Int->OS S):OS S:=aa k (pi k [f,rf]) fun r1=>ab (!(r1==0)) (I (([]:LC),r1)) (aa k (yP k i) fun q=>ab (!(q.2==0)) (I (([]:LC),q.2)) (aa k (tK k) fun z=>aa k (DO k f z i rf) fun x=>I (x.1,x.2)))
def yF (k:Nat) (f:LC) (depth c0:Int) (c1:LC) (I:LC×Int->OS S):OS S:=aa k (A' k f) fun r1=>aa k (Mh k r1 (ot .i64 (c0+depth))) fun z=>ab (!z) (aa k (tD k f) fun A=>I (A,0)) (aa k (jV k c1 0 depth) fun q=>ab (!(q.2==0)) (I (([]:LC),q.2)) (aa k (yR k f (ot .i64 (c0+depth)) q.1) fun x=>I (x.1,x.2)))
def yG (k:Nat) (t:Tm) (depth c0:Int) (c1:LC) (I:LC×Int->OS S):OS S:=ab (t.k==14) (aa k (tF k t.r depth c0 c1) fun r1=>I (r1.1,r1.2)) (aa k (yF k t.r depth c0 c1) fun q=>I (q.1,q.2))
def tG (k:Nat) (i:Int) (c0:Tm) (I:Int->OS S):OS S:=aa k (gI k c0.k i) fun r1=>I r1.2
def tH (k:Nat) (p c0:Int) (I:Int->OS S):OS S:=I c0
abbrev c8 (S:Type):=Tm->Int->Int->(LC)->(Tm×Int->OS S)->OS S
def wQ (hd:c8 S) (k:Nat) (I:LT×Int->OS S) (c0:Int) (c1:LC) (c4:Int) (l:LT) (depth:Int) (x:(LT)->Int->OS S) (q:LT) (ox:Int):OS S:=ab (decide ((ox:Int)<(l.length:Int))) (oa (af l ox) fun x1=>aa k (tH k ox c4) fun A=>hd (ac x1) (ot .i64 (depth+A)) c0 c1 fun z=>ab (!(z.2==0)) (I (([]:LT),z.2)) (oa (aw 1099511627776 q.length [(ac z.1)].length) fun x4=>x (q++[(ac z.1)]) (ot .i64 (ox+1)))) (I (q,0))
def lW (hd:c8 S) (k:Nat) (I:LT×Int->OS S) (c0:Int) (c1:LC) (c4:Int) (l:LT) (depth:Int):Nat->(LT)->Int->OS S
 |0=>fun _ _=> .none
 |m+1=>fun q ox=>wQ hd k I c0 c1 c4 l depth (lW hd k I c0 c1 c4 l depth m) q ox
def HB (hd:c8 S) (k:Nat) (I:LT×Int->OS S) (J0:(LT)->Int->OS S) (l:LT) (depth c0:Int) (c1:LC) (c4:Int):OS S:=J0 ([]:LT) 0
def DK (hd:c8 S) (k:Nat) (l:LT) (depth c0:Int) (c1:LC) (c4:Int) (I:LT×Int->OS S):OS S:=HB hd k I (fun q ox=>lW hd k I c0 c1 c4 l depth k q ox) l depth c0 c1 c4
def wR (hd:c8 S) (k:Nat) (I:LT×Int->OS S) (c0:Int) (c1:LC) (c4:Tm) (l:LT) (depth:Int) (x:(LT)->Int->OS S) (q:LT) (ox:Int):OS S:=ab (decide ((ox:Int)<(l.length:Int))) (oa (af l ox) fun x1=>aa k (tG k ox (ac c4)) fun A=>hd (ac x1) (ot .i64 (depth+A)) c0 c1 fun z=>ab (!(z.2==0)) (I (([]:LT),z.2)) (oa (aw 1099511627776 q.length [(ac z.1)].length) fun x4=>x (q++[(ac z.1)]) (ot .i64 (ox+1)))) (I (q,0))
def lX (hd:c8 S) (k:Nat) (I:LT×Int->OS S) (c0:Int) (c1:LC) (c4:Tm) (l:LT) (depth:Int):Nat->(LT)->Int->OS S
 |0=>fun _ _=> .none
 |m+1=>fun q ox=>wR hd k I c0 c1 c4 l depth (lX hd k I c0 c1 c4 l depth m) q ox
def HC (hd:c8 S) (k:Nat) (I:LT×Int->OS S) (J0:(LT)->Int->OS S) (l:LT) (depth c0:Int) (c1:LC) (c4:Tm):OS S:=J0 ([]:LT) 0
def DL (hd:c8 S) (k:Nat) (l:LT) (depth c0:Int) (c1:LC) (c4:Tm) (I:LT×Int->OS S):OS S:=HC hd k I (fun q ox=>lX hd k I c0 c1 c4 l depth k q ox) l depth c0 c1 c4
def wS (hd:c8 S) (k:Nat) (I:Tm×Int->OS S) (c0:Int) (c1:LC) (t:Tm) (r1:LC×Int) (r2:LT×Int) (depth:Int) (x:Int->(LB)->Int->OS S) (z:Int) (q:LB) (v55:Int):OS S:=ab (decide ((v55:Int)<(t.s.length:Int))) (oa (af t.s v55) fun x3=>aa k (tF k x3.f depth c0 c1) fun A=>ab (!(A.2==0)) (I ((Tm.mk 0 0 pf [] [] []),A.2)) (ab ((A.1.length:Int)==0) (x z q (ot .i64 (v55+1))) (aa k (DK hd k x3.c depth c0 c1 z) fun B=>ab (!(B.2==0)) (I ((Tm.mk 0 0 pf [] [] []),B.2)) (oa (aw 1099511627776 q.length [(Br.mk A.1 B.1)].length) fun x6=>x z (q++[(Br.mk A.1 B.1)]) (ot .i64 (v55+1)))))) (I ((Tm.mk t.k t.n t.name r1.1 r2.1 q),0))
def fV (hd:c8 S) (k:Nat) (I:Tm×Int->OS S) (c0:Int) (c1:LC) (t:Tm) (r1:LC×Int) (r2:LT×Int) (depth:Int):Nat->Int->(LB)->Int->OS S
 |0=>fun _ _ _=> .none
 |m+1=>fun x q v55=>wS hd k I c0 c1 t r1 r2 depth (fV hd k I c0 c1 t r1 r2 depth m) x q v55
def HF (hd:c8 S) (k:Nat) (I:Tm×Int->OS S) (J0:(LC×Int)->(LT×Int)->Int->(LB)->Int->OS S) (t:Tm) (depth c0:Int) (c1:LC):OS S:=aa k (yG k (ac t) depth c0 c1) fun r1=>ab (!(r1.2==0)) (I ((Tm.mk 0 0 pf [] [] []),r1.2)) (aa k (DL hd k t.c depth c0 c1 (ac t)) fun q=>ab (!(q.2==0)) (I ((Tm.mk 0 0 pf [] [] []),q.2)) (ab (t.k==15) (J0 r1 q 1 ([]:LB) 0) (J0 r1 q 0 ([]:LB) 0)))
def d7:Nat->Tm->Int->Int->(LC)->(Tm×Int->OS S)->OS S
 |0=>fun _ _ _ _ _=> .none
 |k+1=>fun t depth c0 c1 I=>HF (d7 k) k I (fun r1 z x q v55=>fV (d7 k) k I c0 c1 t r1 z depth k x q v55) t depth c0 c1
def DE (k:Nat) (i:Int) (I:Int->OS S):OS S:=I i
def pk (k:Nat) (s i:Int) (I:Int->OS S):OS S:=aa k (nd k i) fun r1=>ab (!r1) (I (bj .and .u32 s 16777215)) (aa k (pn k i) fun q=>oa (bR (0<=(ot .u64 (ot .i64 (i+1))))) fun x3=>oa (bR (0<=(ot .u64 i))) fun x4=>I (bj .or .u32 (bj .and .u32 (bj .and .u32 s 16777215) q) (ot .u32 ((Int.fdiv (bj .and .u32 s 16777215) (2^min (zk (ot .u64 (ot .i64 (i+1)))) 32))*2^min (zk (ot .u64 i)) 32))))
def wN (k:Nat) (I:LC×Int->OS S) (c0 depth:Int) (f:LC) (x:Int->(LC)->OS S) (tg:Int) (q:LC):OS S:=ab (decide ((tg:Int)<(f.length:Int))) (oa (af f tg) fun x1=>aa k (pk k x1.pos (ot .i64 (c0+depth))) fun z=>aa k (pk k x1.neg (ot .i64 (c0+depth))) fun A=>oa (aw 1099511627776 q.length [(Cl.mk z A)].length) fun x4=>x (ot .i64 (tg+1)) (q++[(Cl.mk z A)])) (aa k (gy k q) fun B=>I (B.1,B.2))
def z' (k:Nat) (I:LC×Int->OS S) (c0 depth:Int) (f:LC):Nat->Int->(LC)->OS S
 |0=>fun _ _=> .none
 |m+1=>fun tg q=>wN k I c0 depth f (z' k I c0 depth f m) tg q
def Hx (k:Nat) (I:LC×Int->OS S) (J0:Int->(LC)->OS S) (f:LC) (depth c0:Int):OS S:=J0 0 ([]:LC)
def pc (k:Nat) (f:LC) (depth c0:Int) (I:LC×Int->OS S):OS S:=Hx k I (fun tg q=>z' k I c0 depth f k tg q) f depth c0
def yH (k:Nat) (t:Tm) (depth c0:Int) (I:LC×Int->OS S):OS S:=ab (t.k==14) (aa k (pc k t.r depth c0) fun r1=>I (r1.1,r1.2)) (aa k (pc k t.r depth c0) fun q=>I (q.1,q.2))
abbrev c_ (S:Type):=Tm->Int->Int->(Tm×Int->OS S)->OS S
def wO (hd:c_ S) (k:Nat) (I:LT×Int->OS S) (c0 c1:Int) (l:LT) (depth:Int) (x:(LT)->Int->OS S) (q:LT) (ox:Int):OS S:=ab (decide ((ox:Int)<(l.length:Int))) (oa (af l ox) fun x1=>aa k (tH k ox c1) fun A=>hd (ac x1) (ot .i64 (depth+A)) c0 fun z=>ab (!(z.2==0)) (I (([]:LT),z.2)) (oa (aw 1099511627776 q.length [(ac z.1)].length) fun x4=>x (q++[(ac z.1)]) (ot .i64 (ox+1)))) (I (q,0))
def lU (hd:c_ S) (k:Nat) (I:LT×Int->OS S) (c0 c1:Int) (l:LT) (depth:Int):Nat->(LT)->Int->OS S
 |0=>fun _ _=> .none
 |m+1=>fun q ox=>wO hd k I c0 c1 l depth (lU hd k I c0 c1 l depth m) q ox
def Hz (hd:c_ S) (k:Nat) (I:LT×Int->OS S) (J0:(LT)->Int->OS S) (l:LT) (depth c0 c1:Int):OS S:=J0 ([]:LT) 0
def DI (hd:c_ S) (k:Nat) (l:LT) (depth c0 c1:Int) (I:LT×Int->OS S):OS S:=Hz hd k I (fun q ox=>lU hd k I c0 c1 l depth k q ox) l depth c0 c1
def wP (hd:c_ S) (k:Nat) (I:LT×Int->OS S) (c0:Int) (c1:Tm) (l:LT) (depth:Int) (x:(LT)->Int->OS S) (q:LT) (ox:Int):OS S:=ab (decide ((ox:Int)<(l.length:Int))) (oa (af l ox) fun x1=>aa k (tG k ox (ac c1)) fun A=>hd (ac x1) (ot .i64 (depth+A)) c0 fun z=>ab (!(z.2==0)) (I (([]:LT),z.2)) (oa (aw 1099511627776 q.length [(ac z.1)].length) fun x4=>x (q++[(ac z.1)]) (ot .i64 (ox+1)))) (I (q,0))
def lV (hd:c_ S) (k:Nat) (I:LT×Int->OS S) (c0:Int) (c1:Tm) (l:LT) (depth:Int):Nat->(LT)->Int->OS S
 |0=>fun _ _=> .none
 |m+1=>fun q ox=>wP hd k I c0 c1 l depth (lV hd k I c0 c1 l depth m) q ox
def HA (hd:c_ S) (k:Nat) (I:LT×Int->OS S) (J0:(LT)->Int->OS S) (l:LT) (depth c0:Int) (c1:Tm):OS S:=J0 ([]:LT) 0
def DJ (hd:c_ S) (k:Nat) (l:LT) (depth c0:Int) (c1:Tm) (I:LT×Int->OS S):OS S:=HA hd k I (fun q ox=>lV hd k I c0 c1 l depth k q ox) l depth c0 c1
def wT (hd:c_ S) (k:Nat) (I:Tm×Int->OS S) (c0:Int) (t:Tm) (r1:LC×Int) (r2:LT×Int) (depth:Int) (x:Int->(LB)->Int->OS S) (z:Int) (q:LB) (v55:Int):OS S:=ab (decide ((v55:Int)<(t.s.length:Int))) (oa (af t.s v55) fun x3=>aa k (pc k x3.f depth c0) fun A=>ab (!(A.2==0)) (I ((Tm.mk 0 0 pf [] [] []),A.2)) (ab ((A.1.length:Int)==0) (x z q (ot .i64 (v55+1))) (aa k (DI hd k x3.c depth c0 z) fun B=>ab (!(B.2==0)) (I ((Tm.mk 0 0 pf [] [] []),B.2)) (oa (aw 1099511627776 q.length [(Br.mk A.1 B.1)].length) fun x6=>x z (q++[(Br.mk A.1 B.1)]) (ot .i64 (v55+1)))))) (I ((Tm.mk t.k t.n t.name r1.1 r2.1 q),0))
def LX (hd:c_ S) (k:Nat) (I:Tm×Int->OS S) (c0:Int) (t:Tm) (r1:LC×Int) (r2:LT×Int) (depth:Int):Nat->Int->(LB)->Int->OS S
 |0=>fun _ _ _=> .none
 |m+1=>fun x q v55=>wT hd k I c0 t r1 r2 depth (LX hd k I c0 t r1 r2 depth m) x q v55
def HG (hd:c_ S) (k:Nat) (I:Tm×Int->OS S) (J0:(LC×Int)->(LT×Int)->Int->(LB)->Int->OS S) (t:Tm) (depth c0:Int):OS S:=aa k (yH k (ac t) depth c0) fun r1=>ab (!(r1.2==0)) (I ((Tm.mk 0 0 pf [] [] []),r1.2)) (aa k (DJ hd k t.c depth c0 (ac t)) fun q=>ab (!(q.2==0)) (I ((Tm.mk 0 0 pf [] [] []),q.2)) (ab (t.k==15) (J0 r1 q 1 ([]:LB) 0) (J0 r1 q 0 ([]:LB) 0)))
def dT:Nat->Tm->Int->Int->(Tm×Int->OS S)->OS S
 |0=>fun _ _ _ _=> .none
 |k+1=>fun t depth c0 I=>HG (dT k) k I (fun r1 z x q v55=>LX (dT k) k I c0 t r1 z depth k x q v55) t depth c0
def m_ (k:Nat) (t:Tm) (i:Int) (rf:LC) (I:Tm×Int->OS S):OS S:=aa k (DM k (ac t) i rf) fun r1=>ab (!(r1==0)) (I ((Tm.mk 0 0 pf [] [] []),r1)) (aa k (jV k rf i 1) fun q=>ab (!(q.2==0)) (I ((Tm.mk 0 0 pf [] [] []),q.2)) (aa k (DF k i q.1) fun z=>d7 k (ac t) 0 z.1 z.2 fun x=>ab (!(x.2==0)) (I ((Tm.mk 0 0 pf [] [] []),x.2)) (aa k (DE k i) fun B=>dT k (ac x.1) 0 B fun A=>I ((ac A.1),A.2))))
def JL (k:Nat) (t:Tm) (rf:LC) (c0:Int) (I:Tm×Int->OS S):OS S:=aa k (dG k c0) fun r1=>ab (!r1) (I ((Tm.mk 0 0 pf [] [] []),c0)) (aa k (m_ k (ac t) 0 rf) fun q=>aa k (Hv k (ac q.1) q.2 c0) fun x=>I ((ac x.1),x.2))
def JI (k:Nat) (t:Tm) (c0:Int) (I:Tm×Int->OS S):OS S:=aa k (Nr k) fun r1=>aa k (JL k (ac t) r1 c0) fun q=>I ((ac q.1),q.2)
def zc (k:Nat) (kind:Int) (kids:LT) (I:Int×Int×BA×LT->OS S):OS S:=I (kind,0,pf,kids)
def aJ (k:Nat) (t:Tm) (c0:Int) (I:Tm×Bool×Int->OS S):OS S:=aa k (cS k t.s) fun r1=>ab (decide ((r1:Int)<0)) (I ((Tm.mk 0 0 pf [] [] []),false,c0)) (oa (af t.s r1) fun x2=>ab (t.k==15) (oa (af x2.c 0) fun x3=>aa k (JI k (ac x3) c0) fun A=>I ((ac A.1),true,A.2)) (ab (t.k==18) (oa (af x2.c 0) fun x5=>aa k (zc k 9 [(ac x5)]) fun q=>oa (af t.c 0) fun B=>aa k (zc k 6 [(Tm.mk q.1 q.2.1 q.2.2.1 [] q.2.2.2 []),(ac B)]) fun x=>I ((Tm.mk x.1 x.2.1 x.2.2.1 [] x.2.2.2 []),true,c0)) (ab (t.k==16) (oa (af x2.c 0) fun E=>I ((ac E),true,c0)) (ab (t.k==17) (oa (af x2.c 0) fun z=>I ((ac z),true,c0)) (I ((Tm.mk 0 0 pf [] [] []),false,c0))))))
def aW (k:Nat) (rf:LC) (I:Int->OS S):OS S:=ab ((rf.length:Int)==0) (I 0) (ab ((rf.length:Int)==1) (oa (af rf 0) fun x1=>ab ((x1.pos==0)&&((x1.neg==0)&&true)) (I 1) (I (-1))) (I (-1)))
def cA (k:Nat) (t:Tm) (c0:Int) (I:Tm×Bool×Int->OS S):OS S:=aa k (aW k t.r) fun r1=>ab (decide ((r1:Int)>=0)) (oa (af t.c (ot .i64 (1+r1))) fun x2=>I ((ac x2),true,c0)) (oa (af t.c 0) fun x3=>ab (x3.k==12) (oa (af t.c 0) fun x4=>oa (af x4.c 0) fun x5=>aa k (JL k (ac x5) t.r c0) fun q=>I ((ac q.1),true,q.2)) (I ((Tm.mk 0 0 pf [] [] []),false,c0)))
def bA (k:Nat) (t:Tm) (I:Tm×Bool->OS S):OS S:=aa k (aW k t.r) fun r1=>ab (decide ((r1:Int)<0)) (I ((Tm.mk 0 0 pf [] [] []),false)) (ab (t.k==21) (aa k (zc k 20 ([]:LT)) fun q=>I ((Tm.mk q.1 q.2.1 q.2.2.1 [] q.2.2.2 []),true)) (ab (r1==0) (aa k (zc k 24 ([]:LT)) fun x=>I ((Tm.mk x.1 x.2.1 x.2.2.1 [] x.2.2.2 []),true)) (aa k (zc k 25 ([]:LT)) fun z=>I ((Tm.mk z.1 z.2.1 z.2.2.1 [] z.2.2.2 []),true))))
def tO (k:Nat) (kind:Int) (rf:LC) (kids:LT) (I:Int×Int×BA×LC×LT->OS S):OS S:=I (kind,0,pf,rf,kids)
def hF (k:Nat) (t:Tm) (I:Tm×Bool->OS S):OS S:=oa (af t.c 3) fun x1=>ab (x1.k==20) (oa (af t.c 1) fun x2=>I ((ac x2),true)) (ab (x1.k==21) (oa (af t.c 2) fun x3=>oa (af t.c 1) fun x4=>oa (af t.c 1) fun x5=>aa k (tO k 13 x1.r [(ac x3),(ac x4),(ac x5)]) fun q=>I ((Tm.mk q.1 q.2.1 q.2.2.1 q.2.2.2.1 q.2.2.2.2 []),true)) (I ((Tm.mk 0 0 pf [] [] []),false)))
def h6 (k:Nat) (t:Tm) (I:Tm×Bool->OS S):OS S:=oa (af t.c 4) fun x1=>ab (x1.k==24) (oa (af t.c 1) fun x2=>I ((ac x2),true)) (ab (x1.k==25) (oa (af t.c 2) fun x3=>I ((ac x3),true)) (ab (x1.k==26) (oa (af t.c 3) fun x4=>oa (af x1.c 0) fun x5=>aa k (zc k 6 [(ac x4),(ac x5)]) fun x=>oa (af t.c 1) fun z=>oa (af t.c 2) fun A=>aa k (tO k 13 x1.r [(Tm.mk x.1 x.2.1 x.2.2.1 [] x.2.2.2 []),(ac z),(ac A)]) fun q=>I ((Tm.mk q.1 q.2.1 q.2.2.1 q.2.2.2.1 q.2.2.2.2 []),true)) (I ((Tm.mk 0 0 pf [] [] []),false))))
def cD (k:Nat) (t:Tm) (c0:Int) (I:Tm×Bool×Int->OS S):OS S:=ab (t.k==6) (oa (af t.c 0) fun x1=>ab (x1.k==5) (oa (af t.c 0) fun x2=>oa (af x2.c 0) fun x3=>oa (af t.c 1) fun x4=>aa k (za k (ac x3) (ac x4) c0) fun r5=>I ((ac r5.1),true,r5.2)) (aa k (aJ k (ac t) c0) fun M=>I ((ac M.1),M.2.1,M.2.2))) (ab (t.k==9) (oa (af t.c 0) fun x7=>ab (x7.k==8) (oa (af t.c 0) fun x8=>oa (af x8.c (ot .i64 (t.k-9))) fun x9=>I ((ac x9),true,c0)) (aa k (aJ k (ac t) c0) fun x=>I ((ac x.1),x.2.1,x.2.2))) (ab (t.k==10) (oa (af t.c 0) fun O=>ab (O.k==8) (oa (af t.c 0) fun T=>oa (af T.c (ot .i64 (t.k-9))) fun W=>I ((ac W),true,c0)) (aa k (aJ k (ac t) c0) fun r14=>I ((ac r14.1),r14.2.1,r14.2.2))) (ab (t.k==13) (aa k (cA k (ac t) c0) fun z=>I ((ac z.1),z.2.1,z.2.2)) (ab (t.k==21) (aa k (bA k (ac t)) fun E=>I ((ac E.1),E.2,c0)) (ab (t.k==26) (aa k (bA k (ac t)) fun F=>I ((ac F.1),F.2,c0)) (ab (t.k==22) (aa k (hF k (ac t)) fun J=>I ((ac J.1),J.2,c0)) (ab (t.k==27) (aa k (h6 k (ac t)) fun L=>I ((ac L.1),L.2,c0)) (ab (t.k==28) (oa (af t.c 0) fun Y=>I ((ac Y),true,c0)) (ab (t.k==14) (oa (af t.c 1) fun ad=>aa k (aW k t.r) fun ao=>I ((ac ad),ao==1,c0)) (ab (t.k==18) (aa k (aJ k (ac t) c0) fun q=>ab (q.2.1) (I ((ac q.1),true,q.2.2)) (oa (af t.c 0) fun ax=>ab (ax.k==17) (oa (af t.c 0) fun az=>oa (af az.c 0) fun a6=>I ((ac a6),true,q.2.2)) (aa k (aJ k (ac t) q.2.2) fun A=>I ((ac A.1),A.2.1,A.2.2)))) (aa k (aJ k (ac t) c0) fun B=>I ((ac B.1),B.2.1,B.2.2))))))))))))
def ly (k:Nat) (t:Tm) (c0:Int) (I:Tm×Bool×Int×Int->OS S):OS S:=aa k (DS k (ac t)) fun r1=>aa k (Hv k (ac t) r1 c0) fun q=>dJ k (ac q.1) fun x=>aa k (dG k q.2) fun z=>I ((ac x),z,q.2,q.2)
def qG (k:Nat) (t:Tm) (I:Tm×Bool×Int->OS S):OS S:=aa k (DS k (ac t)) fun r1=>ab (!(r1==0)) (I ((Tm.mk 0 0 pf [] [] []),false,r1)) (dJ k (ac t) fun z=>aa k (cD k (ac z) 0) fun q=>ab (!q.2.1) (I ((Tm.mk 0 0 pf [] [] []),false,0)) (aa k (ly k (ac q.1) q.2.2) fun x=>I ((ac x.1),x.2.1,x.2.2.1)))
def x8 (k:Nat) (t:Tm) (vars nV:Int) (I:Int->OS S):OS S:=ab (decide ((vars:Int)<0)) (I 2) (ab (decide ((nV:Int)<0)) (I 2) (ab (decide ((nV:Int)>24)) (I 2) (aa k (zD k (ac t)) fun r1=>ab (!(r1==0)) (I r1) (ic k (ac t) vars nV true fun q=>ab (!q) (I 100) (I 0)))))
def cr (k:Nat) (I:Tm×Bool->OS S) (t:Tm) (defs:List Df) (x:Int->OS S) (q:Int):OS S:=ab (decide ((q:Int)<(defs.length:Int))) (oa (af defs q) fun x1=>ab (x1.name==t.name) (dJ k (ac x1.body) fun z=>aa k (x8 k (ac x1.body) 0 0) fun A=>I ((ac z),A==0)) (x (ot .i64 (q+1)))) (I ((Tm.mk 0 0 pf [] [] []),false))
def bM (k:Nat) (I:Tm×Bool->OS S) (t:Tm) (defs:List Df):Nat->Int->OS S
 |0=>fun _=> .none
 |m+1=>fun q=>cr k I t defs (bM k I t defs m) q
def aAq (k:Nat) (I:Tm×Bool->OS S) (J0:Int->OS S) (defs:List Df) (t:Tm):OS S:=ab (!(t.k==2)) (I ((Tm.mk 0 0 pf [] [] []),false)) (J0 0)
def cR (k:Nat) (defs:List Df) (t:Tm) (I:Tm×Bool->OS S):OS S:=aAq k I (fun q=>bM k I t defs k q) defs t
def wv (k:Nat) (kind:Int) (kids:LT) (I:Int×Int×BA×LT->OS S):OS S:=I (kind,0,pf,kids)
def N2 (k:Nat) (sys:LB) (I:Int×Int×BA×LT×LB->OS S):OS S:=aa k (wv k 3 ([]:LT)) fun r1=>aa k (wv k 3 ([]:LT)) fun q=>I (15,0,pf,[(Tm.mk r1.1 r1.2.1 r1.2.2.1 [] r1.2.2.2 []),(Tm.mk q.1 q.2.1 q.2.2.1 [] q.2.2.2 [])],sys)
def iZ (k:Nat) (xx c0:Int) (I:Int->OS S):OS S:=ab (c0==0) (I xx) (I c0)
def wL (k:Nat) (I:Int->OS S) (l:LT) (q:Int->Int->OS S) (x qm:Int):OS S:=ab (decide ((qm:Int)<(l.length:Int))) (oa (af l qm) fun x1=>aa k (DS k (ac x1)) fun z=>aa k (iZ k z x) fun A=>q A (ot .i64 (qm+1))) (I x)
def pY (k:Nat) (I:Int->OS S) (l:LT):Nat->Int->Int->OS S
 |0=>fun _ _=> .none
 |m+1=>fun q qm=>wL k I l (pY k I l m) q qm
def Hs (k:Nat) (I:Int->OS S) (J0:Int->Int->OS S) (l:LT):OS S:=J0 0 0
def m9 (k:Nat) (l:LT) (I:Int->OS S):OS S:=Hs k I (fun q qm=>pY k I l k q qm) l
def de (k:Nat) (c0:Int) (I:Bool->OS S):OS S:=I (c0==0)
def Bw (k:Nat) (t:Tm) (vars nV c0:Int) (I:Tm×Int->OS S):OS S:=aa k (de k c0) fun r1=>ab (!r1) (I ((Tm.mk 0 0 pf [] [] []),c0)) (aa k (lu k (ac t) vars nV) fun q=>aa k (iZ k q.2 c0) fun x=>I ((ac q.1),x))
def eQ (k:Nat) (t:Tm) (c0:Int) (I:Tm×Int×Int->OS S):OS S:=aa k (de k c0) fun r1=>ab (r1) (aa k (DS k (ac t)) fun x=>aa k (iZ k x c0) fun q=>aa k (de k q) fun z=>ab (!z) (I ((Tm.mk 0 0 pf [] [] []),q,q)) (I ((ac t),0,q))) (aa k (de k c0) fun A=>ab (!A) (I ((Tm.mk 0 0 pf [] [] []),c0,c0)) (I ((ac t),0,c0)))
def tA (k:Nat) (f:LC) (c0:Int) (I:LC×Int->OS S):OS S:=aa k (de k c0) fun r1=>ab (!r1) (I (([]:LC),c0)) (aa k (jV k f 0 1) fun q=>aa k (iZ k q.2 c0) fun x=>I (q.1,x))
def yX (k:Nat) (c0:Int) (c1:Tm) (c2:Int) (I:px Int Tm->OS S):OS S:=dk k 0 c0 (ac c1) 0 (if 24<c2 then 24 else c2) fun q=>px.elim q (fun q=>I (.ok (ac q))) (fun x=>I (.bD x))
def xa (k:Nat) (I:Tm×Int->OS S) (c0:Int) (c1:Tm) (c2:Int) (numbers:List Int) (x:Int->OS S) (q:Int):OS S:=ab (decide ((q:Int)<(numbers.length:Int))) (oa (af numbers q) fun x2=>ab (decide ((x2:Int)<0)) (I ((Tm.mk 0 0 pf [] [] []),2)) (x (ot .i64 (q+1)))) (aa k (yX k c0 (ac c1) c2) fun z=>px.elim z (fun z=>I ((ac z),0)) (fun A=>I ((Tm.mk 0 0 pf [] [] []),A)))
def nC (k:Nat) (I:Tm×Int->OS S) (c0:Int) (c1:Tm) (c2:Int) (numbers:List Int):Nat->Int->OS S
 |0=>fun _=> .none
 |m+1=>fun q=>xa k I c0 c1 c2 numbers (nC k I c0 c1 c2 numbers m) q
def BQ (k:Nat) (I:Tm×Int->OS S) (J0:Int->OS S) (t:Tm) (numbers:List Int) (c0:Int) (c1:Tm) (c2:Int):OS S:=aa k (DS k (ac t)) fun r1=>ab (!(r1==0)) (I ((Tm.mk 0 0 pf [] [] []),r1)) (J0 0)
def yZ (k:Nat) (t:Tm) (numbers:List Int) (c0:Int) (c1:Tm) (c2:Int) (I:Tm×Int->OS S):OS S:=BQ k I (fun q=>nC k I c0 c1 c2 numbers k q) t numbers c0 c1 c2
def lv (k:Nat) (t:Tm) (oE qx:Int) (I:Tm×Int->OS S):OS S:=aa k (yZ k (ac t) [oE,qx] qx (ac t) oE) fun r1=>I ((ac r1.1),r1.2)
def lr (k:Nat) (line:Tm) (rf:LC) (c0:Int) (I:Tm×Int->OS S):OS S:=aa k (de k c0) fun r1=>ab (!r1) (I ((Tm.mk 0 0 pf [] [] []),c0)) (aa k (lv k (ac line) 1 2) fun x=>aa k (iZ k x.2 c0) fun q=>aa k (de k q) fun A=>ab (!A) (I ((Tm.mk 0 0 pf [] [] []),q)) (aa k (m_ k (ac x.1) 0 rf) fun z=>aa k (iZ k z.2 q) fun B=>I ((ac z.1),B)))
def oQ (k:Nat) (I:Tm×Int->OS S) (a:Tm) (r5:Int×Int×BA×LT) (sys:LB) (E:Int->(LB)->Int->OS S) (x:Int) (q:LB) (z:Int):OS S:=ab (decide ((z:Int)<(sys.length:Int))) (oa (af sys z) fun x6=>aa k (de k x) fun O=>ab (!O) (aa k (Bw k (ac a) 0 2 x) fun L=>oa (aw 1099511627776 q.length [(Br.mk [(Cl.mk 0 1)] [(ac L.1)])].length) fun Y=>aa k (eQ k (Tm.mk r5.1 r5.2.1 r5.2.2.1 [] r5.2.2.2 (q++[(Br.mk [(Cl.mk 0 1)] [(ac L.1)])])) L.2) fun F=>I ((ac F.1),F.2.1)) (aa k (tA k x6.f x) fun A=>oa (af x6.c 0) fun M=>aa k (lr k (ac M) [(Cl.mk 3 0)] A.2) fun r13=>oa (aw 1099511627776 q.length [(Br.mk A.1 [(ac r13.1)])].length) fun T=>E r13.2 (q++[(Br.mk A.1 [(ac r13.1)])]) (ot .i64 (z+1)))) (aa k (Bw k (ac a) 0 2 x) fun B=>oa (aw 1099511627776 q.length [(Br.mk [(Cl.mk 0 1)] [(ac B.1)])].length) fun W=>aa k (eQ k (Tm.mk r5.1 r5.2.1 r5.2.2.1 [] r5.2.2.2 (q++[(Br.mk [(Cl.mk 0 1)] [(ac B.1)])])) B.2) fun J=>I ((ac J.1),J.2.1))
def gM (k:Nat) (I:Tm×Int->OS S) (a:Tm) (r5:Int×Int×BA×LT) (sys:LB):Nat->Int->(LB)->Int->OS S
 |0=>fun _ _ _=> .none
 |m+1=>fun x q z=>oQ k I a r5 sys (gM k I a r5 sys m) x q z
def Hr (k:Nat) (I:Tm×Int->OS S) (J0:(Int×Int×BA×LT)->Int->(LB)->Int->OS S) (t a:Tm) (sys:LB):OS S:=aa k (N2 k sys) fun r1=>aa k (m9 k [(ac t),(ac a),(Tm.mk r1.1 r1.2.1 r1.2.2.1 [] r1.2.2.2.1 r1.2.2.2.2)]) fun z=>aa k (Bw k (ac t) 0 1 z) fun q=>aa k (Bw k (ac a) 0 1 q.2) fun x=>aa k (wv k 15 [(ac q.1),(ac x.1)]) fun A=>J0 A x.2 ([]:LB) 0
def yy (k:Nat) (t a:Tm) (sys:LB) (I:Tm×Int->OS S):OS S:=Hr k I (fun A x q z=>gM k I a A sys k x q z) t a sys
def y_ (k:Nat) (t a:Tm) (sys:LB) (c0:Int) (I:Tm×Int->OS S):OS S:=aa k (dG k c0) fun r1=>ab (!r1) (I ((Tm.mk 0 0 pf [] [] []),c0)) (aa k (yy k (ac t) (ac a) sys) fun q=>aa k (Hv k (ac q.1) q.2 c0) fun x=>I ((ac x.1),x.2))
def yY (k:Nat) (c0:Int) (c1:Tm) (c2:Int) (I:px Int Tm->OS S):OS S:=dk k c0 0 (ac c1) (if 2000000000<c2 then 2000000000 else c2) 0 fun q=>px.elim q (fun q=>I (.ok (ac q))) (fun x=>I (.bD x))
def xb (k:Nat) (I:Tm×Int->OS S) (c0:Int) (c1:Tm) (c2:Int) (numbers:List Int) (x:Int->OS S) (q:Int):OS S:=ab (decide ((q:Int)<(numbers.length:Int))) (oa (af numbers q) fun x2=>ab (decide ((x2:Int)<0)) (I ((Tm.mk 0 0 pf [] [] []),2)) (x (ot .i64 (q+1)))) (aa k (yY k c0 (ac c1) c2) fun z=>px.elim z (fun z=>I ((ac z),0)) (fun A=>I ((Tm.mk 0 0 pf [] [] []),A)))
def nD (k:Nat) (I:Tm×Int->OS S) (c0:Int) (c1:Tm) (c2:Int) (numbers:List Int):Nat->Int->OS S
 |0=>fun _=> .none
 |m+1=>fun q=>xb k I c0 c1 c2 numbers (nD k I c0 c1 c2 numbers m) q
def BR (k:Nat) (I:Tm×Int->OS S) (J0:Int->OS S) (t:Tm) (numbers:List Int) (c0:Int) (c1:Tm) (c2:Int):OS S:=aa k (DS k (ac t)) fun r1=>ab (!(r1==0)) (I ((Tm.mk 0 0 pf [] [] []),r1)) (J0 0)
def q3 (k:Nat) (t:Tm) (numbers:List Int) (c0:Int) (c1:Tm) (c2:Int) (I:Tm×Int->OS S):OS S:=BR k I (fun q=>nD k I c0 c1 c2 numbers k q) t numbers c0 c1 c2
def jo (k:Nat) (t:Tm) (oE qx:Int) (I:Tm×Int->OS S):OS S:=aa k (q3 k (ac t) [oE,qx,ot .i64 (1000000-qx)] qx (ac t) oE) fun r1=>I ((ac r1.1),r1.2)
def RU (k:Nat) (t:Tm) (vars nV c0:Int) (I:Tm×Int->OS S):OS S:=aa k (dG k c0) fun r1=>ab (!r1) (I ((Tm.mk 0 0 pf [] [] []),c0)) (aa k (jo k (ac t) 1 vars) fun x=>aa k (Hv k (ac x.1) x.2 c0) fun q=>aa k (dG k q.2) fun B=>ab (!B) (I ((Tm.mk 0 0 pf [] [] []),q.2)) (aa k (lv k (ac q.1) 0 nV) fun z=>aa k (Hv k (ac z.1) z.2 q.2) fun A=>I ((ac A.1),A.2)))
def zb (k:Nat) (t:Tm) (vars nV c0:Int) (I:Tm×Int->OS S):OS S:=aa k (dG k c0) fun r1=>ab (!r1) (I ((Tm.mk 0 0 pf [] [] []),c0)) (aa k (lu k (ac t) vars nV) fun q=>aa k (Hv k (ac q.1) q.2 c0) fun x=>I ((ac x.1),x.2))
def mu (k:Nat) (I:Int×Int×BA×LT×Int->OS S) (c0:Tm) (c1:Int) (sQ:Tm) (qx:Int) (x:Int->(LT)->Int->OS S) (z:Int) (q:LT) (xp:Int):OS S:=ab (decide ((xp:Int)<((List.drop (zk 1) (List.take (zk c1) c0.c)).length:Int))) (oa (af (List.drop (zk 1) (List.take (zk c1) c0.c)) xp) fun x2=>ab (decide ((qx:Int)>0)) (aa k (zb k (ac x2) 0 qx z) fun B=>oa (aw 1099511627776 q.length [(ac B.1)].length) fun x4=>x B.2 (q++[(ac B.1)]) (ot .i64 (xp+1))) (oa (aw 1099511627776 q.length [(ac x2)].length) fun x5=>x z (q++[(ac x2)]) (ot .i64 (xp+1)))) (oa (aw 1099511627776 q.length [(ac sQ)].length) fun x6=>aa k (zc k c0.k (q++[(ac sQ)])) fun A=>I (A.1,A.2.1,A.2.2.1,A.2.2.2,z))
def Na (k:Nat) (I:Int×Int×BA×LT×Int->OS S) (c0:Tm) (c1:Int) (sQ:Tm) (qx:Int):Nat->Int->(LT)->Int->OS S
 |0=>fun _ _ _=> .none
 |m+1=>fun x q xp=>mu k I c0 c1 sQ qx (Na k I c0 c1 sQ qx m) x q xp
def BP (k:Nat) (I:Int×Int×BA×LT×Int->OS S) (J0:Int->(LT)->Int->OS S) (p:Tm) (qx:Int) (sQ c0:Tm) (c1 c3:Int):OS S:=oa (bR (0<=(1:Int)/\(1:Int)<=c1/\c1<=(c0.c.length:Int))) fun x1=>J0 c3 [(ac p)] 0
def nc (k:Nat) (p:Tm) (qx:Int) (sQ c0:Tm) (c1 c3:Int) (I:Int×Int×BA×LT×Int->OS S):OS S:=BP k I (fun x q xp=>Na k I c0 c1 sQ qx k x q xp) p qx sQ c0 c1 c3
def wm (k:Nat) (f:LC) (kids:LT) (I:(Br Tm)->OS S):OS S:=I (Br.mk f kids)
def yz (k:Nat) (line:Tm) (c0:Int) (I:Tm×Int->OS S):OS S:=aa k (de k c0) fun r1=>ab (!r1) (I ((Tm.mk 0 0 pf [] [] []),c0)) (aa k (Nr k) fun x=>aa k (m_ k (ac line) 0 x) fun q=>aa k (iZ k q.2 c0) fun z=>I ((ac q.1),z))
def oP (k:Nat) (I:Tm×Int->OS S) (r3:Tm) (r9:Int×Int×BA×LT) (r6:Tm) (B:Int->(LB)->Int->OS S) (z:Int) (x:LB) (Km:Int):OS S:=ab (decide ((Km:Int)<(r6.s.length:Int))) (oa (af r6.s Km) fun A=>aa k (de k z) fun J=>ab (!J) (aa k (eQ k (Tm.mk r9.1 r9.2.1 r9.2.2.1 [] r9.2.2.2 x) z) fun E=>I ((ac E.1),E.2.1)) (aa k (lr k (ac r3) [(Cl.mk 1 0),(Cl.mk 2 0)] z) fun r13=>oa (af A.c 0) fun L=>aa k (wv k 14 [(ac r13.1),(ac L)]) fun q=>oa (aw 1099511627776 x.length [(Br.mk A.f [(Tm.mk q.1 q.2.1 q.2.2.1 [(Cl.mk 1 0)] q.2.2.2 [])])].length) fun M=>B r13.2 (x++[(Br.mk A.f [(Tm.mk q.1 q.2.1 q.2.2.1 [(Cl.mk 1 0)] q.2.2.2 [])])]) (ot .i64 (Km+1)))) (aa k (eQ k (Tm.mk r9.1 r9.2.1 r9.2.2.1 [] r9.2.2.2 x) z) fun F=>I ((ac F.1),F.2.1))
def ko (k:Nat) (I:Tm×Int->OS S) (r3:Tm) (r9:Int×Int×BA×LT) (r6:Tm):Nat->Int->(LB)->Int->OS S
 |0=>fun _ _ _=> .none
 |m+1=>fun x q Km=>oP k I r3 r9 r6 (ko k I r3 r9 r6 m) x q Km
def Hq (k:Nat) (I:Tm×Int->OS S) (J0:Tm->(Int×Int×BA×LT)->Tm->Int->(LB)->Int->OS S) (line a:Tm) (sys:LB):OS S:=aa k (N2 k sys) fun r1=>aa k (m9 k [(ac line),(ac a),(Tm.mk r1.1 r1.2.1 r1.2.2.1 [] r1.2.2.2.1 r1.2.2.2.2)]) fun B=>dJ k (ac line) fun z=>dJ k (ac a) fun E=>aa k (N2 k sys) fun q=>dJ k (Tm.mk q.1 q.2.1 q.2.2.1 [] q.2.2.2.1 q.2.2.2.2) fun F=>aa k (yz k (ac z) B) fun A=>aa k (wv k 14 [(ac z),(ac E)]) fun x=>aa k (wv k 15 [(ac A.1),(Tm.mk x.1 x.2.1 x.2.2.1 [] x.2.2.2 [])]) fun J=>J0 z J F A.2 ([]:LB) 0
def yx (k:Nat) (line a:Tm) (sys:LB) (I:Tm×Int->OS S):OS S:=Hq k I (fun z A B x q Km=>ko k I z A B k x q Km) line a sys
def y9 (k:Nat) (line a:Tm) (sys:LB) (c0:Int) (I:Tm×Int->OS S):OS S:=aa k (dG k c0) fun r1=>ab (!r1) (I ((Tm.mk 0 0 pf [] [] []),c0)) (aa k (yx k (ac line) (ac a) sys) fun q=>aa k (Hv k (ac q.1) q.2 c0) fun x=>I ((ac x.1),x.2))
def oR (k:Nat) (I:Tm×Bool×Int->OS S) (r3:Tm) (r9 Am:Tm×Int) (r13:Int×Int×BA×LT×Int) (t x4:Tm) (A:Int->(LB)->Int->OS S) (B:Int) (q:LB) (xk:Int):OS S:=ab (decide ((xk:Int)<(x4.s.length:Int))) (oa (af x4.s xk) fun E=>oa (af E.c 0) fun L=>aa k (nc k (ac r9.1) 1 (ac L) (ac r3) (ot .i64 ((t.c.length:Int)-1)) B) fun x=>aa k (wm k E.f [(Tm.mk x.1 x.2.1 x.2.2.1 [] x.2.2.2.1 [])]) fun F=>oa (aw 1099511627776 q.length [F].length) fun M=>A x.2.2.2.2 (q++[F]) (ot .i64 (xk+1))) (aa k (y9 k (ac Am.1) (Tm.mk r13.1 r13.2.1 r13.2.2.1 [] r13.2.2.2.1 []) q B) fun J=>aa k (ly k (ac J.1) J.2) fun z=>I ((ac z.1),z.2.1,z.2.2.1))
def fX (k:Nat) (I:Tm×Bool×Int->OS S) (r3:Tm) (r9 Am:Tm×Int) (r13:Int×Int×BA×LT×Int) (t x4:Tm):Nat->Int->(LB)->Int->OS S
 |0=>fun _ _ _=> .none
 |m+1=>fun x q z=>oR k I r3 r9 Am r13 t x4 (fX k I r3 r9 Am r13 t x4 m) x q z
def w_ (k:Nat) (I:Tm×Bool×Int->OS S) (t:Tm) (J1:Tm->(Tm×Int)->(Tm×Int)->(Int×Int×BA×LT×Int)->Tm->Int->(LB)->Int->OS S):OS S:=dJ k (ac t) fun q=>oa (af q.c (ot .i64 ((t.c.length:Int)-1))) fun x4=>oa (af x4.c 0) fun x5=>oa (af x4.c 1) fun x6=>aa k (y_ k (ac x5) (ac x6) x4.s 0) fun E=>oa (af q.c 0) fun F=>aa k (RU k (ac F) 0 1 E.2) fun z=>aa k (za k (ac z.1) (ac E.1) z.2) fun x=>oa (af q.c 0) fun A=>oa (af x4.c 1) fun B=>aa k (nc k (ac A) 0 (ac B) (ac q) (ot .i64 ((t.c.length:Int)-1)) x.2) fun r13=>J1 q z x r13 x4 r13.2.2.2.2 ([]:LB) 0
def l6 (k:Nat) (I:Tm×Bool×Int->OS S) (t:Tm):Nat->OS S
 |0=> .none
 |_+1=>w_ k I t (fun B E x r13 x4 z q A=>fX k I B E x r13 t x4 k z q A)
def HU (k:Nat) (I:Tm×Bool×Int->OS S) (J0:OS S) (t:Tm):OS S:=aa k (DS k (ac t)) fun r1=>ab (!(r1==0)) (I ((Tm.mk 0 0 pf [] [] []),false,r1)) (ab (!(t.k==22)) (ab (!(t.k==27)) (I ((Tm.mk 0 0 pf [] [] []),false,0)) (oa (af t.c (ot .i64 ((t.c.length:Int)-1))) fun x2=>ab (!(x2.k==15)) (I ((Tm.mk 0 0 pf [] [] []),false,0)) (J0))) (oa (af t.c (ot .i64 ((t.c.length:Int)-1))) fun q=>ab (!(q.k==15)) (I ((Tm.mk 0 0 pf [] [] []),false,0)) (J0)))
def tL (k:Nat) (t:Tm) (I:Tm×Bool×Int->OS S):OS S:=HU k I (l6 k I t k) t
def Nq (k:Nat) (qu:Int) (I:Int×Int×BA->OS S):OS S:=I (1,qu,pf)
def o6 (k:Nat) (I:Int->OS S) (l:List (LC)) (q:Int->OS S) (x:Int):OS S:=ab (decide ((x:Int)<(l.length:Int))) (oa (af l x) fun x1=>aa k (pd k x1) fun z=>ab (!z) (I 2) (q (ot .i64 (x+1)))) (I 0)
def mc (k:Nat) (I:Int->OS S) (l:List (LC)):Nat->Int->OS S
 |0=>fun _=> .none
 |m+1=>fun q=>o6 k I l (mc k I l m) q
def az8 (k:Nat) (I:Int->OS S) (J0:Int->OS S) (l:List (LC)):OS S:=J0 0
def Z2 (k:Nat) (l:List (LC)) (I:Int->OS S):OS S:=az8 k I (fun q=>mc k I l k q) l
def y0 (k:Nat) (f g:LC) (I:LC×Int->OS S):OS S:=aa k (Z2 k [f,g]) fun r1=>ab (!(r1==0)) (I (([]:LC),r1)) (aa k (yL k f g) fun q=>I (q.1,q.2))
def RA (k:Nat) (f g:LC) (c0:Int) (I:LC×Int->OS S):OS S:=aa k (de k c0) fun r1=>ab (!r1) (I (([]:LC),c0)) (aa k (y0 k f g) fun q=>aa k (iZ k q.2 c0) fun x=>I (q.1,x))
def n1 (k:Nat) (line:Tm) (oe:LC) (a:Tm) (Ih:Cl) (rf:LC) (I:Tm×Int->OS S):OS S:=aa k (m9 k [(ac line),(ac a)]) fun r1=>aa k (pd k oe) fun O=>ab (!O) (aa k (iZ k 2 r1) fun T=>aa k (tA k oe T) fun E=>aa k (RA k E.1 [Ih] E.2) fun F=>aa k (lr k (ac line) rf F.2) fun J=>aa k (Bw k (ac a) 0 1 J.2) fun L=>aa k (wv k 14 [(ac J.1),(ac L.1)]) fun B=>aa k (eQ k (Tm.mk B.1 B.2.1 B.2.2.1 F.1 B.2.2.2 []) L.2) fun M=>I ((ac M.1),M.2.1)) (aa k (tA k oe r1) fun q=>aa k (RA k q.1 [Ih] q.2) fun x=>aa k (lr k (ac line) rf x.2) fun z=>aa k (Bw k (ac a) 0 1 z.2) fun r13=>aa k (wv k 14 [(ac z.1),(ac r13.1)]) fun r14=>aa k (eQ k (Tm.mk r14.1 r14.2.1 r14.2.2.1 x.1 r14.2.2.2 []) r13.2) fun A=>I ((ac A.1),A.2.1))
def xx (k:Nat) (line:Tm) (oe:LC) (a:Tm) (I:Tm×Int->OS S):OS S:=aa k (n1 k (ac line) oe (ac a) (Cl.mk 1 0) [(Cl.mk 0 1),(Cl.mk 2 0)]) fun r1=>I ((ac r1.1),r1.2)
def hR (k:Nat) (line:Tm) (oe:LC) (a:Tm) (c0:Int) (I:Tm×Int->OS S):OS S:=aa k (dG k c0) fun r1=>ab (!r1) (I ((Tm.mk 0 0 pf [] [] []),c0)) (aa k (xx k (ac line) oe (ac a)) fun q=>aa k (Hv k (ac q.1) q.2 c0) fun x=>I ((ac x.1),x.2))
def Nf (k:Nat) (line a:Tm) (nX:Int) (nU:LC) (oU oT:Int) (o0:BA) (oV:LC) (oW:LT) (nW:LB) (I:Int×Int×BA×LC×LT->OS S):OS S:=aa k (tO k 14 nU [(ac line),(ac a)]) fun r1=>I (r1.1,r1.2.1,r1.2.2.1,r1.2.2.2.1,r1.2.2.2.2)
def q5 (k:Nat) (l:Tm) (nX:Int) (nU:LC) (oU oT:Int) (o0:BA) (oV:LC) (oW:LT) (nW:LB) (I:Int×Int×BA×LT×Int->OS S):OS S:=oa (af l.c 0) fun x1=>aa k (zb k (ac x1) 1 0 nX) fun F=>aa k (Nq k 0) fun A=>aa k (hR k (ac F.1) nU (Tm.mk A.1 A.2.1 A.2.2 [] [] []) F.2) fun B=>oa (af l.c 1) fun x5=>aa k (RU k (ac x5) 1 0 B.2) fun J=>aa k (za k (ac J.1) (ac B.1) J.2) fun L=>aa k (zb k (Tm.mk oU oT o0 oV oW nW) 1 0 L.2) fun M=>aa k (JL k (ac B.1) ([]:LC) M.2) fun E=>aa k (zc k 6 [(ac M.1),(ac E.1)]) fun x=>aa k (Nf k (ac L.1) (Tm.mk x.1 x.2.1 x.2.2.1 [] x.2.2.2 []) E.2 nU oU oT o0 oV oW nW) fun q=>aa k (zc k 5 [(Tm.mk q.1 q.2.1 q.2.2.1 q.2.2.2.1 q.2.2.2.2 [])]) fun z=>I (z.1,z.2.1,z.2.2.1,z.2.2.2,E.2)
def bf (k:Nat) (line:Tm) (oe:LC) (a:Tm) (I:Tm×Int->OS S):OS S:=aa k (n1 k (ac line) oe (ac a) (Cl.mk 0 1) [(Cl.mk 3 0)]) fun r1=>I ((ac r1.1),r1.2)
def x7 (k:Nat) (line:Tm) (oe:LC) (a:Tm) (c0:Int) (I:Tm×Int->OS S):OS S:=aa k (dG k c0) fun r1=>ab (!r1) (I ((Tm.mk 0 0 pf [] [] []),c0)) (aa k (bf k (ac line) oe (ac a)) fun q=>aa k (Hv k (ac q.1) q.2 c0) fun x=>I ((ac x.1),x.2))
def o4 (k:Nat) (l:Tm) (nX:Int) (nU:LC) (oU oT:Int) (o0:BA) (oV:LC) (oW:LT) (nW:LB) (I:Int×Int×BA×LT×Int->OS S):OS S:=aa k (zc k 9 [(Tm.mk oU oT o0 oV oW nW)]) fun r1=>oa (af l.c 1) fun x2=>oa (af l.c 0) fun x3=>aa k (x7 k (ac x3) nU (Tm.mk r1.1 r1.2.1 r1.2.2.1 [] r1.2.2.2 []) nX) fun E=>aa k (za k (ac x2) (ac E.1) E.2) fun A=>oa (af l.c 0) fun x6=>aa k (Nf k (ac x6) (Tm.mk r1.1 r1.2.1 r1.2.2.1 [] r1.2.2.2 []) A.2 nU oU oT o0 oV oW nW) fun x=>aa k (zc k 10 [(Tm.mk oU oT o0 oV oW nW)]) fun B=>aa k (Nf k (ac A.1) (Tm.mk B.1 B.2.1 B.2.2.1 [] B.2.2.2 []) A.2 nU oU oT o0 oV oW nW) fun z=>aa k (zc k 8 [(Tm.mk x.1 x.2.1 x.2.2.1 x.2.2.2.1 x.2.2.2.2 []),(Tm.mk z.1 z.2.1 z.2.2.1 z.2.2.2.1 z.2.2.2.2 [])]) fun q=>I (q.1,q.2.1,q.2.2.1,q.2.2.2,A.2)
def e1 (k:Nat) (t:Tm) (I:Tm×Int->OS S):OS S:=aa k (lv k (ac t) 2 1) fun r1=>ab (!(r1.2==0)) (I ((Tm.mk 0 0 pf [] [] []),r1.2)) (aa k (m_ k (ac r1.1) 0 [(Cl.mk 2 0)]) fun q=>I ((ac q.1),q.2))
def k4 (k:Nat) (t:Tm) (nX:Int) (nU:LC) (oU oT:Int) (o0:BA) (oV:LC) (oW:LT) (nW:LB) (I:Tm×Int->OS S):OS S:=ab (!(nX==0)) (I ((Tm.mk 0 0 pf [] [] []),nX)) (aa k (e1 k (ac t)) fun r1=>I ((ac r1.1),r1.2))
def ga (k:Nat) (qx:Int) (rf:Cl) (c1 c2:Tm) (zw:Int) (uu:LC) (tZ tY:Int) (tX:BA) (tW:LC) (tV:LT) (tU:LB) (I:Int×Int×BA×LC×LT×Int->OS S):OS S:=aa k (zb k (Tm.mk tZ tY tX tW tV tU) 0 qx zw) fun r1=>aa k (zb k (ac c1) 0 qx r1.2) fun x=>aa k (zb k (ac c2) 0 qx x.2) fun z=>aa k (tO k 13 [rf] [(ac r1.1),(ac x.1),(ac z.1)]) fun q=>I (q.1,q.2.1,q.2.2.1,q.2.2.2.1,q.2.2.2.2,z.2)
def JK (k:Nat) (f:LC) (qx c0:Int) (I:LC×Int->OS S):OS S:=aa k (dG k c0) fun r1=>ab (!r1) (I (([]:LC),c0)) (aa k (jV k f 0 qx) fun q=>aa k (Hv k (Tm.mk 0 0 pf [] [] []) q.2 c0) fun x=>I (q.1,x.2))
def JJ (k:Nat) (t:Tm) (qx c0:Int) (I:Tm×Int->OS S):OS S:=aa k (dG k c0) fun r1=>ab (!r1) (I ((Tm.mk 0 0 pf [] [] []),c0)) (aa k (lv k (ac t) 1 qx) fun q=>aa k (Hv k (ac q.1) q.2 c0) fun x=>I ((ac x.1),x.2))
def p4 (k:Nat) (l:Tm) (nX:Int) (nU:LC) (oU oT:Int) (o0:BA) (oV:LC) (oW:LT) (nW:LB) (I:Int×Int×BA×LT×Int->OS S):OS S:=oa (af l.c 1) fun x1=>aa k (JL k (ac x1) ([]:LC) nX) fun Y=>oa (af l.c 2) fun x3=>aa k (JL k (ac x3) ([]:LC) Y.2) fun r4=>oa (af l.c 0) fun x5=>aa k (k4 k (ac x5) r4.2 nU oU oT o0 oV oW nW) fun r6=>aa k (ga k 1 (Cl.mk 1 0) (ac Y.1) (ac r4.1) r6.2 nU oU oT o0 oV oW nW) fun q=>ab (decide (((nU.length:Int):Int)>0)) (aa k (JK k nU 1 q.2.2.2.2.2) fun r8=>aa k (ga k 2 (Cl.mk 2 0) (ac Y.1) (ac r4.1) r8.2 nU oU oT o0 oV oW nW) fun E=>aa k (wm k r8.1 [(Tm.mk E.1 E.2.1 E.2.2.1 E.2.2.2.1 E.2.2.2.2.1 [])]) fun x=>oa (aw 1099511627776 0 [x].length) fun a6=>oa (af l.c 1) fun ad=>aa k (JJ k (ac ad) 1 E.2.2.2.2.2) fun r13=>aa k (wm k [(Cl.mk 0 1)] [(ac r13.1)]) fun r14=>oa (aw 1099511627776 [x].length [r14].length) fun a7=>oa (af l.c 2) fun ao=>aa k (JJ k (ac ao) 1 r13.2) fun F=>aa k (wm k [(Cl.mk 1 0)] [(ac F.1)]) fun J=>oa (aw 1099511627776 ([x]++[r14]).length [J].length) fun a8=>aa k (y9 k (ac r6.1) (Tm.mk q.1 q.2.1 q.2.2.1 q.2.2.2.1 q.2.2.2.2.1 []) (([x]++[r14])++[J]) F.2) fun L=>aa k (zc k 12 [(ac L.1)]) fun z=>I (z.1,z.2.1,z.2.2.1,z.2.2.2,L.2)) (oa (af l.c 1) fun ax=>aa k (JJ k (ac ax) 1 q.2.2.2.2.2) fun M=>aa k (wm k [(Cl.mk 0 1)] [(ac M.1)]) fun B=>oa (aw 1099511627776 0 [B].length) fun bc=>oa (af l.c 2) fun az=>aa k (JJ k (ac az) 1 M.2) fun O=>aa k (wm k [(Cl.mk 1 0)] [(ac O.1)]) fun T=>oa (aw 1099511627776 [B].length [T].length) fun bf=>aa k (y9 k (ac r6.1) (Tm.mk q.1 q.2.1 q.2.2.1 q.2.2.2.1 q.2.2.2.2.1 []) ([B]++[T]) O.2) fun W=>aa k (zc k 12 [(ac W.1)]) fun A=>I (A.1,A.2.1,A.2.2.1,A.2.2.2,W.2))
def JM (k:Nat) (kind:Int) (l:LB) (kids:LT) (I:Int×Int×BA×LT×LB->OS S):OS S:=I (kind,0,pf,kids,l)
def Jp (k:Nat) (I:Tm×Bool×Int->OS S) (r3:Tm) (x:Int×Int×BA×LC×LT) (x4:Tm) (r13:Tm×Int) (x5:Tm) (F:Int->(LB)->Int->OS S) (J:Int) (q:LB) (B:Int):OS S:=ab (decide ((B:Int)<(x5.s.length:Int))) (oa (af x5.s B) fun L=>aa k (JK k r3.r 1 J) fun M=>aa k (JJ k (ac x4) 1 M.2) fun O=>oa (af L.c 0) fun W=>aa k (tO k 14 M.1 [(ac O.1),(ac W)]) fun z=>aa k (wm k L.f [(Tm.mk z.1 z.2.1 z.2.2.1 z.2.2.2.1 z.2.2.2.2 [])]) fun T=>oa (aw 1099511627776 q.length [T].length) fun Y=>F O.2 (q++[T]) (ot .i64 (B+1))) (aa k (JM k 15 q [(ac r13.1),(Tm.mk x.1 x.2.1 x.2.2.1 x.2.2.2.1 x.2.2.2.2 [])]) fun A=>aa k (ly k (Tm.mk A.1 A.2.1 A.2.2.1 [] A.2.2.2.1 A.2.2.2.2) J) fun E=>I ((ac E.1),E.2.1,E.2.2.1))
def E7 (k:Nat) (I:Tm×Bool×Int->OS S) (r3:Tm) (x:Int×Int×BA×LC×LT) (x4:Tm) (r13:Tm×Int) (x5:Tm):Nat->Int->(LB)->Int->OS S
 |0=>fun _ _ _=> .none
 |m+1=>fun z q A=>Jp k I r3 x x4 r13 x5 (E7 k I r3 x x4 r13 x5 m) z q A
def SP (k:Nat) (I:Tm×Bool×Int->OS S) (J0:Tm->(Int×Int×BA×LC×LT)->Tm->(Tm×Int)->Tm->Int->(LB)->Int->OS S) (t:Tm):OS S:=aa k (DS k (ac t)) fun r1=>ab (!(r1==0)) (I ((Tm.mk 0 0 pf [] [] []),false,r1)) (ab (!(t.k==14)) (I ((Tm.mk 0 0 pf [] [] []),false,0)) (oa (af t.c 0) fun x2=>ab (!(x2.k==23)) (I ((Tm.mk 0 0 pf [] [] []),false,0)) (dJ k (ac t) fun A=>oa (af A.c 0) fun x4=>oa (af A.c 1) fun x5=>ab (x5.k==24) (aa k (ly k (ac x5) 0) fun B=>I ((ac B.1),B.2.1,B.2.2.1)) (ab (x5.k==25) (aa k (ly k (ac x5) 0) fun E=>I ((ac E.1),E.2.1,E.2.2.1)) (ab (x5.k==26) (oa (af x4.c 0) fun L=>oa (af x5.c 0) fun M=>aa k (tO k 14 A.r [(ac L),(ac M)]) fun q=>aa k (tO k 26 x5.r [(Tm.mk q.1 q.2.1 q.2.2.1 q.2.2.2.1 q.2.2.2.2 [])]) fun x=>aa k (ly k (Tm.mk x.1 x.2.1 x.2.2.1 x.2.2.2.1 x.2.2.2.2 []) 0) fun z=>I ((ac z.1),z.2.1,z.2.2.1)) (ab (x5.k==15) (aa k (JI k (ac x4) 0) fun r13=>oa (af x5.c 1) fun F=>aa k (tO k 14 A.r [(ac x4),(ac F)]) fun J=>J0 A J x4 r13 x5 r13.2 ([]:LB) 0) (I ((Tm.mk 0 0 pf [] [] []),false,0))))))))
def JG (k:Nat) (t:Tm) (I:Tm×Bool×Int->OS S):OS S:=SP k I (fun B x x4 r13 x5 z q A=>E7 k I B x x4 r13 x5 k z q A) t
def ay_ (k:Nat) (b:(Br Tm)) (I:(Br Tm)->OS S):OS S:=oa (af b.c 1) fun x1=>aa k (wm k b.f [(ac x1)]) fun q=>I q
def b6 (k:Nat) (I:LB->OS S) (l:LB) (x:Int->(LB)->OS S) (qm:Int) (q:LB):OS S:=ab (decide ((qm:Int)<(l.length:Int))) (oa (af l qm) fun x1=>aa k (ay_ k x1) fun z=>oa (aw 1099511627776 q.length [z].length) fun x3=>x (ot .i64 (qm+1)) (q++[z])) (I q)
def q8 (k:Nat) (I:LB->OS S) (l:LB):Nat->Int->(LB)->OS S
 |0=>fun _ _=> .none
 |m+1=>fun qm q=>b6 k I l (q8 k I l m) qm q
def c9 (k:Nat) (I:LB->OS S) (J0:Int->(LB)->OS S) (l:LB):OS S:=J0 0 ([]:LB)
def R' (k:Nat) (l:LB) (I:LB->OS S):OS S:=c9 k I (fun qm q=>q8 k I l k qm q) l
def SB (k:Nat) (g:Tm) (I:LB->OS S):OS S:=aa k (R' k g.s) fun r1=>I r1
def Ni (k:Nat) (a:Tm) (es:LB) (I:Int×Int×BA×LT×LB->OS S):OS S:=aa k (JM k 18 es [(ac a)]) fun r1=>I (r1.1,r1.2.1,r1.2.2.1,r1.2.2.2.1,r1.2.2.2.2)
def ay3 (k:Nat) (c:Cl) (c0:Int) (I:Cl×Bool->OS S):OS S:=aa k (Mh k (bj .or .u32 c.pos c.neg) c0) fun r1=>I (c,!r1)
def b4 (k:Nat) (I:LC->OS S) (c0:Int) (l:LC) (x:Int->(LC)->OS S) (tg:Int) (q:LC):OS S:=ab (decide ((tg:Int)<(l.length:Int))) (oa (af l tg) fun x1=>aa k (ay3 k x1 c0) fun z=>ab (z.2) (oa (aw 1099511627776 q.length [z.1].length) fun x3=>x (ot .i64 (tg+1)) (q++[z.1])) (x (ot .i64 (tg+1)) q)) (I q)
def bF (k:Nat) (I:LC->OS S) (c0:Int) (l:LC):Nat->Int->(LC)->OS S
 |0=>fun _ _=> .none
 |m+1=>fun tg q=>b4 k I c0 l (bF k I c0 l m) tg q
def az7 (k:Nat) (I:LC->OS S) (J0:Int->(LC)->OS S) (l:LC) (c0:Int):OS S:=J0 0 ([]:LC)
def ay4 (k:Nat) (l:LC) (c0:Int) (I:LC->OS S):OS S:=az7 k I (fun tg q=>bF k I c0 l k tg q) l c0
def L1 (k:Nat) (f:LC) (i:Int) (I:LC×Int->OS S):OS S:=aa k (pd k f) fun r1=>ab (!r1) (I (([]:LC),2)) (aa k (yK k i) fun x=>ab (!x) (I (([]:LC),2)) (aa k (ay4 k f i) fun z=>aa k (gy k z) fun q=>I (q.1,q.2)))
def b7 (k:Nat) (f:LC) (c0:Int) (I:LC×Int->OS S):OS S:=aa k (dG k c0) fun r1=>ab (!r1) (I (([]:LC),c0)) (aa k (L1 k f 0) fun A=>aa k (Hv k (Tm.mk 0 0 pf [] [] []) A.2 c0) fun z=>aa k (dG k z.2) fun E=>ab (!E) (I (([]:LC),z.2)) (aa k (zc k 3 ([]:LT)) fun q=>aa k (zc k 3 ([]:LT)) fun x=>aa k (tK k) fun F=>aa k (m_ k (Tm.mk 14 0 pf A.1 [(Tm.mk q.1 q.2.1 q.2.2.1 [] q.2.2.2 []),(Tm.mk x.1 x.2.1 x.2.2.1 [] x.2.2.2 [])] []) 0 F) fun B=>aa k (Hv k (Tm.mk 0 0 pf [] [] []) B.2 z.2) fun J=>I (B.1.r,J.2)))
def jm (k:Nat) (c1:Tm) (q:Int) (x:LC) (z A:Int) (B:BA) (E:LC) (F:LT) (J L:LB) (M O:Int) (T:BA) (W:LC) (Y:LT) (ad:LB) (ao ax:Int) (az:BA) (a6:LC) (a7:LT) (a8:LB) (I:Tm×Int->OS S):OS S:=aa k (zb k (ac c1) 0 1 q) fun r1=>I ((ac r1.1),r1.2)
def jb (k:Nat) (nX:Int) (nU:LC) (oU oT:Int) (o0:BA) (oV:LC) (oW:LT) (nW q:LB) (uO uX:Int) (uW:BA) (uV:LC) (uU:LT) (uT:LB) (tT tR:Int) (tQ:BA) (tP:LC) (tM:LT) (th:LB) (c2:Tm) (I:LB×Int->OS S):OS S:=ab ((nU.length:Int)==0) (I (([]:LB),nX)) (aa k (jm k (ac c2) nX nU oU oT o0 oV oW nW q uO uX uW uV uU uT tT tR tQ tP tM th) fun r1=>aa k (wm k nU [(ac r1.1)]) fun x=>I ([x],r1.2))
def Nk (k:Nat) (xx:Tm) (I:Int×Int×BA×LT->OS S):OS S:=aa k (zc k 9 [(ac xx)]) fun r1=>I (r1.1,r1.2.1,r1.2.2.1,r1.2.2.2)
def ay7 (k:Nat) (b:(Br Tm)) (uA:Int) (qT:LC) (qR qM:Int) (qK:BA) (qJ:LC) (qI:LT) (qW sM:LB) (rq rO:Int) (rL:BA) (rK:LC) (rE:LT) (rP:LB) (sK sJ:Int) (sI:BA) (sH:LC) (sO:LT) (sN:LB) (I:(Br Tm)×Int->OS S):OS S:=oa (af b.c 1) fun x1=>aa k (Nk k (ac x1)) fun q=>oa (af b.c 0) fun x3=>aa k (x7 k (ac x3) qT (Tm.mk qR qM qK qJ qI qW) uA) fun z=>aa k (zc k 6 [(Tm.mk q.1 q.2.1 q.2.2.1 [] q.2.2.2 []),(ac z.1)]) fun x=>aa k (wm k b.f [(Tm.mk x.1 x.2.1 x.2.2.1 [] x.2.2.2 [])]) fun A=>I (A,z.2)
def qE (k:Nat) (I:LB×Int->OS S) (qT:LC) (rO:Int) (rL:BA) (rK:LC) (rE:LT) (rP:LB) (sK sJ:Int) (sI:BA) (sH:LC) (sO:LT) (qR:Int) (sN:LB) (qM:Int) (qK:BA) (qJ:LC) (qI:LT) (qW sM:LB) (rq:Int) (l:LB) (x:Int->Int->(LB)->OS S) (arm qm:Int) (q:LB):OS S:=ab (decide ((qm:Int)<(l.length:Int))) (oa (af l qm) fun x1=>aa k (ay7 k x1 arm qT qR qM qK qJ qI qW sM rq rO rL rK rE rP sK sJ sI sH sO sN) fun z=>oa (aw 1099511627776 q.length [z.1].length) fun x3=>x z.2 (ot .i64 (qm+1)) (q++[z.1])) (I (q,arm))
def jd (k:Nat) (I:LB×Int->OS S) (qT:LC) (rO:Int) (rL:BA) (rK:LC) (rE:LT) (rP:LB) (sK sJ:Int) (sI:BA) (sH:LC) (sO:LT) (qR:Int) (sN:LB) (qM:Int) (qK:BA) (qJ:LC) (qI:LT) (qW sM:LB) (rq:Int) (l:LB):Nat->Int->Int->(LB)->OS S
 |0=>fun _ _ _=> .none
 |m+1=>fun arm qm q=>qE k I qT rO rL rK rE rP sK sJ sI sH sO qR sN qM qK qJ qI qW sM rq l (jd k I qT rO rL rK rE rP sK sJ sI sH sO qR sN qM qK qJ qI qW sM rq l m) arm qm q
def aAa (k:Nat) (I:LB×Int->OS S) (J0:Int->Int->(LB)->OS S) (l:LB) (uA:Int) (qT:LC) (qR qM:Int) (qK:BA) (qJ:LC) (qI:LT) (qW sM:LB) (rq rO:Int) (rL:BA) (rK:LC) (rE:LT) (rP:LB) (sK sJ:Int) (sI:BA) (sH:LC) (sO:LT) (sN:LB):OS S:=J0 uA 0 ([]:LB)
def iS (k:Nat) (l:LB) (uA:Int) (qT:LC) (qR qM:Int) (qK:BA) (qJ:LC) (qI:LT) (qW sM:LB) (rq rO:Int) (rL:BA) (rK:LC) (rE:LT) (rP:LB) (sK sJ:Int) (sI:BA) (sH:LC) (sO:LT) (sN:LB) (I:LB×Int->OS S):OS S:=aAa k I (fun arm qm q=>jd k I qT rO rL rK rE rP sK sJ sI sH sO qR sN qM qK qJ qI qW sM rq l k arm qm q) l uA qT qR qM qK qJ qI qW sM rq rO rL rK rE rP sK sJ sI sH sO sN
def sW (k:Nat) (I:Int×LB×Int×Int×BA×LC×LT×LB->OS S) (nU:LC) (uX:Int) (uW:BA) (uV:LC) (uU:LT) (uT:LB) (tT tR:Int) (tQ:BA) (tP:LC) (tM:LT) (oU:Int) (th:LB) (oT:Int) (o0:BA) (oV:LC) (oW:LT) (nW:LB) (uO:Int) (g:Tm) (r3:Int×Int×BA×LT×LB) (z:Int->(LB)->Int->OS S) (A:Int) (q:LB) (IB:Int):OS S:=ab (decide ((IB:Int)<(g.s.length:Int))) (oa (af g.s IB) fun x4=>aa k (b7 k x4.f A) fun B=>ab (decide (((B.1.length:Int):Int)>0)) (aa k (wm k B.1 x4.c) fun L=>oa (aw 1099511627776 q.length [L].length) fun O=>z B.2 (q++[L]) (ot .i64 (IB+1))) (z B.2 q (ot .i64 (IB+1)))) (aa k (jb k A nU oU oT o0 oV oW nW q uO uX uW uV uU uT tT tR tQ tP tM th (Tm.mk r3.1 r3.2.1 r3.2.2.1 [] r3.2.2.2.1 r3.2.2.2.2)) fun E=>aa k (iS k q E.2 nU oU oT o0 oV oW nW q uO uX uW uV uU uT tT tR tQ tP tM th) fun F=>oa (aw 1099511627776 E.1.length F.1.length) fun M=>oa (af g.c 0) fun J=>aa k (y9 k (ac J) (Tm.mk r3.1 r3.2.1 r3.2.2.1 [] r3.2.2.2.1 r3.2.2.2.2) (E.1++F.1) F.2) fun x=>I (x.2,q,x.1.k,x.1.n,x.1.name,x.1.r,x.1.c,x.1.s))
def qo (k:Nat) (I:Int×LB×Int×Int×BA×LC×LT×LB->OS S) (nU:LC) (uX:Int) (uW:BA) (uV:LC) (uU:LT) (uT:LB) (tT tR:Int) (tQ:BA) (tP:LC) (tM:LT) (oU:Int) (th:LB) (oT:Int) (o0:BA) (oV:LC) (oW:LT) (nW:LB) (uO:Int) (g:Tm) (r3:Int×Int×BA×LT×LB):Nat->Int->(LB)->Int->OS S
 |0=>fun _ _ _=> .none
 |m+1=>fun x q IB=>sW k I nU uX uW uV uU uT tT tR tQ tP tM oU th oT o0 oV oW nW uO g r3 (qo k I nU uX uW uV uU uT tT tR tQ tP tM oU th oT o0 oV oW nW uO g r3 m) x q IB
def az_ (k:Nat) (I:Int×LB×Int×Int×BA×LC×LT×LB->OS S) (J0:(Int×Int×BA×LT×LB)->Int->(LB)->Int->OS S) (g:Tm) (nX:Int) (nU:LC) (oU oT:Int) (o0:BA) (oV:LC) (oW:LT) (nW:LB) (uO uX:Int) (uW:BA) (uV:LC) (uU:LT) (uT:LB) (tT tR:Int) (tQ:BA) (tP:LC) (tM:LT) (th:LB):OS S:=aa k (JL k (ac g) ([]:LC) nX) fun r1=>aa k (SB k (ac r1.1)) fun q=>aa k (Ni k (Tm.mk oU oT o0 oV oW nW) q) fun x=>J0 x r1.2 ([]:LB) 0
def s3 (k:Nat) (g:Tm) (nX:Int) (nU:LC) (oU oT:Int) (o0:BA) (oV:LC) (oW:LT) (nW:LB) (uO uX:Int) (uW:BA) (uV:LC) (uU:LT) (uT:LB) (tT tR:Int) (tQ:BA) (tP:LC) (tM:LT) (th:LB) (I:Int×LB×Int×Int×BA×LC×LT×LB->OS S):OS S:=az_ k I (fun z x q IB=>qo k I nU uX uW uV uU uT tT tR tQ tP tM oU th oT o0 oV oW nW uO g z k x q IB) g nX nU oU oT o0 oV oW nW uO uX uW uV uU uT tT tR tQ tP tM th
def Ir (k:Nat) (qu:Int) (I:Int×Int×BA->OS S):OS S:=I (1,qu,pf)
def SC (k:Nat) (t a f y:Tm) (c0:Int) (I:Int×Int×BA×LT×Int->OS S):OS S:=aa k (Bw k (ac a) 1 1 c0) fun r1=>aa k (Bw k (ac y) 1 0 r1.2) fun B=>aa k (Bw k (ac f) 1 0 B.2) fun E=>aa k (Ir k 0) fun A=>aa k (wv k 6 [(ac E.1),(Tm.mk A.1 A.2.1 A.2.2 [] [] [])]) fun q=>aa k (wv k 11 [(ac r1.1),(ac B.1),(Tm.mk q.1 q.2.1 q.2.2.1 [] q.2.2.2 [])]) fun x=>aa k (wv k 7 [(ac t),(Tm.mk x.1 x.2.1 x.2.2.1 [] x.2.2.2 [])]) fun z=>I (z.1,z.2.1,z.2.2.1,z.2.2.2,E.2)
def xk (k:Nat) (t a f y:Tm) (I:Tm×Int->OS S):OS S:=aa k (m9 k [(ac t),(ac a),(ac f),(ac y)]) fun r1=>dJ k (ac t) fun z=>aa k (SC k (ac z) (ac a) (ac f) (ac y) r1) fun q=>aa k (eQ k (Tm.mk q.1 q.2.1 q.2.2.1 [] q.2.2.2.1 []) q.2.2.2.2) fun x=>I ((ac x.1),x.2.1)
def b2 (k:Nat) (t a f y:Tm) (c0:Int) (I:Tm×Int->OS S):OS S:=aa k (dG k c0) fun r1=>ab (!r1) (I ((Tm.mk 0 0 pf [] [] []),c0)) (aa k (xk k (ac t) (ac a) (ac f) (ac y)) fun q=>aa k (Hv k (ac q.1) q.2 c0) fun x=>I ((ac x.1),x.2))
def qv (k:Nat) (sQ c1:Tm) (F:Int) (ad:LC) (ao ax:Int) (az:BA) (a6:LC) (a7:LT) (a8 bc:LB) (J L:Int) (M:BA) (O:LC) (T:LT) (W:LB) (bf bh:Int) (bn:BA) (bt:LC) (bz:LT) (b0:LB) (I:Int×Int×BA×LC×LT×Int->OS S):OS S:=aa k (zb k (ac c1) 0 1 F) fun r1=>aa k (zb k (ac sQ) 0 1 r1.2) fun Y=>aa k (zb k (Tm.mk J L M O T W) 0 2 Y.2) fun r3=>aa k (zc k 12 [(ac r3.1)]) fun z=>aa k (zc k 8 [(ac Y.1),(Tm.mk z.1 z.2.1 z.2.2.1 [] z.2.2.2 [])]) fun q=>aa k (zc k 10 [(ac r1.1)]) fun A=>aa k (zc k 6 [(Tm.mk A.1 A.2.1 A.2.2.1 [] A.2.2.2 []),(Tm.mk q.1 q.2.1 q.2.2.1 [] q.2.2.2 [])]) fun B=>aa k (zc k 9 [(ac r1.1)]) fun E=>aa k (tO k 13 [(Cl.mk 1 0)] [(Tm.mk B.1 B.2.1 B.2.2.1 [] B.2.2.2 []),(Tm.mk E.1 E.2.1 E.2.2.1 [] E.2.2.2 []),(Tm.mk q.1 q.2.1 q.2.2.1 [] q.2.2.2 [])]) fun x=>I (x.1,x.2.1,x.2.2.1,x.2.2.2.1,x.2.2.2.2,r3.2)
def kq (k:Nat) (c2:Tm) (zw:Int) (uu:LC) (tZ tY:Int) (tX:BA) (tW:LC) (tV:LT) (tU vi:LB) (vh wi:Int) (wc:BA) (v8:LC) (aq_:LT) (v7:LB) (vn vm:Int) (vl:BA) (vk:LC) (vj:LT) (arg:LB) (I:Int×Int×BA×LC×LT×Int->OS S):OS S:=aa k (qv k (Tm.mk tZ tY tX tW tV tU) (ac c2) zw uu tZ tY tX tW tV tU vi vh wi wc v8 aq_ v7 vn vm vl vk vj arg) fun r1=>I (r1.1,r1.2.1,r1.2.2.1,r1.2.2.2.1,r1.2.2.2.2.1,r1.2.2.2.2.2)
def r4 (k:Nat) (nX:Int) (nU:LC) (oU oT:Int) (o0:BA) (oV:LC) (oW:LT) (nW q:LB) (uO uX:Int) (uW:BA) (uV:LC) (uU:LT) (uT:LB) (tT tR:Int) (tQ:BA) (tP:LC) (tM:LT) (th:LB) (c3:Tm) (I:LB×Int->OS S):OS S:=ab ((nU.length:Int)==0) (I (([]:LB),nX)) (aa k (kq k (ac c3) nX nU oU oT o0 oV oW nW q uO uX uW uV uU uT tT tR tQ tP tM th) fun r1=>aa k (wm k nU [(Tm.mk r1.1 r1.2.1 r1.2.2.1 r1.2.2.2.1 r1.2.2.2.2.1 [])]) fun x=>I ([x],r1.2.2.2.2.2))
def ay8 (k:Nat) (b:(Br Tm)) (c2:Tm) (zw:Int) (uu:LC) (tZ tY:Int) (tX:BA) (tW:LC) (tV:LT) (tU vi:LB) (vh wi:Int) (wc:BA) (v8:LC) (aq_:LT) (v7:LB) (vn vm:Int) (vl:BA) (vk:LC) (vj:LT) (arg:LB) (I:(Br Tm)×Int->OS S):OS S:=oa (af b.c 0) fun x1=>aa k (tO k 14 uu [(ac x1),(Tm.mk tZ tY tX tW tV tU)]) fun x=>aa k (qv k (Tm.mk x.1 x.2.1 x.2.2.1 x.2.2.2.1 x.2.2.2.2 []) (ac c2) zw uu tZ tY tX tW tV tU vi vh wi wc v8 aq_ v7 vn vm vl vk vj arg) fun q=>aa k (wm k b.f [(Tm.mk q.1 q.2.1 q.2.2.1 q.2.2.2.1 q.2.2.2.2.1 [])]) fun z=>I (z,q.2.2.2.2.2)
def te (k:Nat) (I:LB×Int->OS S) (c2:Tm) (uu:LC) (wi:Int) (wc:BA) (v8:LC) (aq_:LT) (v7:LB) (vn vm:Int) (vl:BA) (vk:LC) (vj:LT) (tZ:Int) (arg:LB) (tY:Int) (tX:BA) (tW:LC) (tV:LT) (tU vi:LB) (vh:Int) (l:LB) (x:Int->Int->(LB)->OS S) (z qm:Int) (q:LB):OS S:=ab (decide ((qm:Int)<(l.length:Int))) (oa (af l qm) fun x1=>aa k (ay8 k x1 (ac c2) z uu tZ tY tX tW tV tU vi vh wi wc v8 aq_ v7 vn vm vl vk vj arg) fun A=>oa (aw 1099511627776 q.length [A.1].length) fun x3=>x A.2 (ot .i64 (qm+1)) (q++[A.1])) (I (q,z))
def Sn (k:Nat) (I:LB×Int->OS S) (c2:Tm) (uu:LC) (wi:Int) (wc:BA) (v8:LC) (aq_:LT) (v7:LB) (vn vm:Int) (vl:BA) (vk:LC) (vj:LT) (tZ:Int) (arg:LB) (tY:Int) (tX:BA) (tW:LC) (tV:LT) (tU vi:LB) (vh:Int) (l:LB):Nat->Int->Int->(LB)->OS S
 |0=>fun _ _ _=> .none
 |m+1=>fun x qm q=>te k I c2 uu wi wc v8 aq_ v7 vn vm vl vk vj tZ arg tY tX tW tV tU vi vh l (Sn k I c2 uu wi wc v8 aq_ v7 vn vm vl vk vj tZ arg tY tX tW tV tU vi vh l m) x qm q
def ao (k:Nat) (I:LB×Int->OS S) (J0:Int->Int->(LB)->OS S) (l:LB) (c2:Tm) (zw:Int) (uu:LC) (tZ tY:Int) (tX:BA) (tW:LC) (tV:LT) (tU vi:LB) (vh wi:Int) (wc:BA) (v8:LC) (aq_:LT) (v7:LB) (vn vm:Int) (vl:BA) (vk:LC) (vj:LT) (arg:LB):OS S:=J0 zw 0 ([]:LB)
def Fk (k:Nat) (l:LB) (c2:Tm) (zw:Int) (uu:LC) (tZ tY:Int) (tX:BA) (tW:LC) (tV:LT) (tU vi:LB) (vh wi:Int) (wc:BA) (v8:LC) (aq_:LT) (v7:LB) (vn vm:Int) (vl:BA) (vk:LC) (vj:LT) (arg:LB) (I:LB×Int->OS S):OS S:=ao k I (fun x qm q=>Sn k I c2 uu wi wc v8 aq_ v7 vn vm vl vk vj tZ arg tY tX tW tV tU vi vh l k x qm q) l c2 zw uu tZ tY tX tW tV tU vi vh wi wc v8 aq_ v7 vn vm vl vk vj arg
def j' (k:Nat) (t xx:Tm) (nX:Int) (nU:LC) (oU oT:Int) (o0:BA) (oV:LC) (oW:LT) (nW x:LB) (uO uX:Int) (uW:BA) (uV:LC) (uU:LT) (uT:LB) (tT tR:Int) (tQ:BA) (tP:LC) (tM:LT) (th:LB) (I:Int×Int×BA×LT×LB×Int->OS S):OS S:=aa k (zc k 10 [(ac xx)]) fun r1=>aa k (zc k 6 [(Tm.mk r1.1 r1.2.1 r1.2.2.1 [] r1.2.2.2 []),(Tm.mk uO uX uW uV uU uT)]) fun q=>aa k (Nk k (ac xx)) fun A=>aa k (b2 k (ac t) (Tm.mk tT tR tQ tP tM th) (Tm.mk A.1 A.2.1 A.2.2.1 [] A.2.2.2 []) (Tm.mk uO uX uW uV uU uT) nX) fun J=>aa k (r4 k J.2 nU oU oT o0 oV oW nW x uO uX uW uV uU uT tT tR tQ tP tM th (Tm.mk q.1 q.2.1 q.2.2.1 [] q.2.2.2 [])) fun E=>aa k (Fk k x (Tm.mk q.1 q.2.1 q.2.2.1 [] q.2.2.2 []) E.2 nU oU oT o0 oV oW nW x uO uX uW uV uU uT tT tR tQ tP tM th) fun F=>oa (aw 1099511627776 E.1.length F.1.length) fun L=>aa k (zc k 9 [(Tm.mk q.1 q.2.1 q.2.2.1 [] q.2.2.2 [])]) fun B=>aa k (JM k 15 (E.1++F.1) [(ac J.1),(Tm.mk B.1 B.2.1 B.2.2.1 [] B.2.2.2 [])]) fun z=>I (z.1,z.2.1,z.2.2.1,z.2.2.2.1,z.2.2.2.2,F.2)
def ay5 (k:Nat) (b:(Br Tm)) (uA:Int) (qT:LC) (qR qM:Int) (qK:BA) (qJ:LC) (qI:LT) (qW sM:LB) (rq rO:Int) (rL:BA) (rK:LC) (rE:LT) (rP:LB) (sK sJ:Int) (sI:BA) (sH:LC) (sO:LT) (sN:LB) (I:Int×Int×BA×LT×LB×Int->OS S):OS S:=oa (af b.c 0) fun x1=>oa (af b.c 1) fun x2=>aa k (j' k (ac x1) (ac x2) uA qT qR qM qK qJ qI qW sM rq rO rL rK rE rP sK sJ sI sH sO sN) fun q=>I (q.1,q.2.1,q.2.2.1,q.2.2.2.1,q.2.2.2.2.1,q.2.2.2.2.2)
def b3 (k:Nat) (I:LT×Int->OS S) (qT:LC) (rO:Int) (rL:BA) (rK:LC) (rE:LT) (rP:LB) (sK sJ:Int) (sI:BA) (sH:LC) (sO:LT) (qR:Int) (sN:LB) (qM:Int) (qK:BA) (qJ:LC) (qI:LT) (qW sM:LB) (rq:Int) (l:LB) (z:Int->Int->(LT)->OS S) (arm qm:Int) (q:LT):OS S:=ab (decide ((qm:Int)<(l.length:Int))) (oa (af l qm) fun x1=>aa k (ay5 k x1 arm qT qR qM qK qJ qI qW sM rq rO rL rK rE rP sK sJ sI sH sO sN) fun x=>oa (aw 1099511627776 q.length [(Tm.mk x.1 x.2.1 x.2.2.1 [] x.2.2.2.1 x.2.2.2.2.1)].length) fun x3=>z x.2.2.2.2.2 (ot .i64 (qm+1)) (q++[(Tm.mk x.1 x.2.1 x.2.2.1 [] x.2.2.2.1 x.2.2.2.2.1)])) (I (q,arm))
def xr (k:Nat) (I:LT×Int->OS S) (qT:LC) (rO:Int) (rL:BA) (rK:LC) (rE:LT) (rP:LB) (sK sJ:Int) (sI:BA) (sH:LC) (sO:LT) (qR:Int) (sN:LB) (qM:Int) (qK:BA) (qJ:LC) (qI:LT) (qW sM:LB) (rq:Int) (l:LB):Nat->Int->Int->(LT)->OS S
 |0=>fun _ _ _=> .none
 |m+1=>fun arm qm q=>b3 k I qT rO rL rK rE rP sK sJ sI sH sO qR sN qM qK qJ qI qW sM rq l (xr k I qT rO rL rK rE rP sK sJ sI sH sO qR sN qM qK qJ qI qW sM rq l m) arm qm q
def aAc (k:Nat) (I:LT×Int->OS S) (J0:Int->Int->(LT)->OS S) (l:LB) (uA:Int) (qT:LC) (qR qM:Int) (qK:BA) (qJ:LC) (qI:LT) (qW sM:LB) (rq rO:Int) (rL:BA) (rK:LC) (rE:LT) (rP:LB) (sK sJ:Int) (sI:BA) (sH:LC) (sO:LT) (sN:LB):OS S:=J0 uA 0 ([]:LT)
def iu (k:Nat) (l:LB) (uA:Int) (qT:LC) (qR qM:Int) (qK:BA) (qJ:LC) (qI:LT) (qW sM:LB) (rq rO:Int) (rL:BA) (rK:LC) (rE:LT) (rP:LB) (sK sJ:Int) (sI:BA) (sH:LC) (sO:LT) (sN:LB) (I:LT×Int->OS S):OS S:=aAc k I (fun arm qm q=>xr k I qT rO rL rK rE rP sK sJ sI sH sO qR sN qM qK qJ qI qW sM rq l k arm qm q) l uA qT qR qM qK qJ qI qW sM rq rO rL rK rE rP sK sJ sI sH sO sN
def k' (k:Nat) (uA:Int) (qT:LC) (qR qM:Int) (qK:BA) (qJ:LC) (qI:LT) (qW sM:LB) (rq rO:Int) (rL:BA) (rK:LC) (rE:LT) (rP:LB) (sK sJ:Int) (sI:BA) (sH:LC) (sO:LT) (sN:LB) (I:Tm×Int->OS S):OS S:=aa k (zb k (Tm.mk rq rO rL rK rE rP) 0 1 uA) fun r1=>I ((ac r1.1),r1.2)
def lz (k:Nat) (nX:Int) (nU:LC) (oU oT:Int) (o0:BA) (oV:LC) (oW:LT) (nW q:LB) (uO uX:Int) (uW:BA) (uV:LC) (uU:LT) (uT:LB) (tT tR:Int) (tQ:BA) (tP:LC) (tM:LT) (th:LB) (I:LB×Int->OS S):OS S:=ab ((nU.length:Int)==0) (I (([]:LB),nX)) (aa k (k' k nX nU oU oT o0 oV oW nW q uO uX uW uV uU uT tT tR tQ tP tM th) fun r1=>aa k (wm k nU [(ac r1.1)]) fun x=>I ([x],r1.2))
def ed (k:Nat) (I:Tm×Bool×Int->OS S) (r3:Tm) (r6:Int×LB×Int×Int×BA×LC×LT×LB) (x4:Tm) (r8:Tm×Int) (ad:Int->Int->Int->BA->(LC)->(LT)->(LB)->(LB)->Int->(LT)->(LB)->OS S) (ao ax az:Int) (a6:BA) (a7:LC) (a8:LT) (bc q:LB) (HV:Int) (x:LT) (z:LB):OS S:=ab (decide ((HV:Int)<(r8.1.s.length:Int))) (oa (af r8.1.s HV) fun T=>oa (af x HV) fun b2=>oa (af x HV) fun bz=>aa k (zb k (ac bz) 0 1 ao) fun W=>aa k (zb k (Tm.mk r6.2.2.1 r6.2.2.2.1 r6.2.2.2.2.1 r6.2.2.2.2.2.1 r6.2.2.2.2.2.2.1 r6.2.2.2.2.2.2.2) 0 1 W.2) fun bf=>oa (af T.c 1) fun b0=>aa k (zb k (ac b0) 0 1 bf.2) fun bh=>aa k (Nk k (ac bh.1)) fun F=>aa k (zc k 9 [(ac W.1)]) fun J=>aa k (zc k 6 [(Tm.mk F.1 F.2.1 F.2.2.1 [] F.2.2.2 []),(Tm.mk J.1 J.2.1 J.2.2.1 [] J.2.2.2 [])]) fun L=>aa k (zc k 10 [(ac W.1)]) fun M=>aa k (tO k 13 [(Cl.mk 1 0)] [(Tm.mk M.1 M.2.1 M.2.2.1 [] M.2.2.2 []),(ac bf.1),(Tm.mk L.1 L.2.1 L.2.2.1 [] L.2.2.2 [])]) fun A=>aa k (wm k T.f [(Tm.mk A.1 A.2.1 A.2.2.1 A.2.2.2.1 A.2.2.2.2 [])]) fun bn=>oa (aw 1099511627776 z.length [bn].length) fun b3=>oa (af x HV) fun b4=>oa (af x HV) fun b1=>aa k (zc k 9 [(ac b1)]) fun O=>aa k (wm k T.f [(Tm.mk O.1 O.2.1 O.2.2.1 [] O.2.2.2 [])]) fun bt=>oa (aw 1099511627776 q.length [bt].length) fun b5=>ad bh.2 ax az a6 a7 a8 bc (q++[bt]) (ot .i64 (HV+1)) x (z++[bn])) (aa k (JM k 15 z [(Tm.mk ax az a6 a7 a8 bc),(Tm.mk r6.2.2.1 r6.2.2.2.1 r6.2.2.2.2.1 r6.2.2.2.2.2.1 r6.2.2.2.2.2.2.1 r6.2.2.2.2.2.2.2)]) fun B=>aa k (JM k 17 q [(Tm.mk B.1 B.2.1 B.2.2.1 [] B.2.2.2.1 B.2.2.2.2)]) fun E=>aa k (ly k (Tm.mk E.1 E.2.1 E.2.2.1 [] E.2.2.2.1 E.2.2.2.2) ao) fun Y=>I ((ac Y.1),Y.2.1,Y.2.2.1))
def Q7 (k:Nat) (I:Tm×Bool×Int->OS S) (r3:Tm) (r6:Int×LB×Int×Int×BA×LC×LT×LB) (x4:Tm) (r8:Tm×Int):Nat->Int->Int->Int->BA->(LC)->(LT)->(LB)->(LB)->Int->(LT)->(LB)->OS S
 |0=>fun _ _ _ _ _ _ _ _ _ _ _=> .none
 |m+1=>fun z A B E F J L q HV M x=>ed k I r3 r6 x4 r8 (Q7 k I r3 r6 x4 r8 m) z A B E F J L q HV M x
def az9 (k:Nat) (I:Tm×Bool×Int->OS S) (J0:Tm->(Int×LB×Int×Int×BA×LC×LT×LB)->Tm->(Tm×Int)->Int->Int->Int->BA->(LC)->(LT)->(LB)->(LB)->Int->(LT)->(LB)->OS S) (t:Tm):OS S:=aa k (DS k (ac t)) fun r1=>ab (!(r1==0)) (I ((Tm.mk 0 0 pf [] [] []),false,r1)) (ab (!(t.k==14)) (I ((Tm.mk 0 0 pf [] [] []),false,0)) (oa (af t.c 0) fun x2=>ab (!(x2.k==16)) (I ((Tm.mk 0 0 pf [] [] []),false,0)) (dJ k (ac t) fun z=>oa (af z.c 1) fun x4=>oa (af z.c 0) fun x5=>aa k (s3 k (ac x5) 0 z.r x4.k x4.n x4.name x4.r x4.c x4.s 0 0 pf [] [] [] 0 0 pf [] [] []) fun q=>oa (af z.c 0) fun L=>aa k (JI k (ac L) q.1) fun A=>ab ((A.1.c.length:Int)==1) (oa (af A.1.c 0) fun x=>aa k (iu k A.1.s A.2 z.r x4.k x4.n x4.name x4.r x4.c x4.s q.2.1 q.2.2.1 q.2.2.2.1 q.2.2.2.2.1 q.2.2.2.2.2.1 q.2.2.2.2.2.2.1 q.2.2.2.2.2.2.2 x.k x.n x.name x.r x.c x.s) fun B=>aa k (lz k B.2 z.r x4.k x4.n x4.name x4.r x4.c x4.s q.2.1 q.2.2.1 q.2.2.2.1 q.2.2.2.2.1 q.2.2.2.2.2.1 q.2.2.2.2.2.2.1 q.2.2.2.2.2.2.2 x.k x.n x.name x.r x.c x.s) fun E=>J0 z q x4 A E.2 x.k x.n x.name x.r x.c x.s ([]:LB) 0 B.1 E.1) (aa k (iu k A.1.s A.2 z.r x4.k x4.n x4.name x4.r x4.c x4.s q.2.1 q.2.2.1 q.2.2.2.1 q.2.2.2.2.1 q.2.2.2.2.2.1 q.2.2.2.2.2.2.1 q.2.2.2.2.2.2.2 0 0 pf [] [] []) fun F=>aa k (lz k F.2 z.r x4.k x4.n x4.name x4.r x4.c x4.s q.2.1 q.2.2.1 q.2.2.2.1 q.2.2.2.2.1 q.2.2.2.2.2.1 q.2.2.2.2.2.2.1 q.2.2.2.2.2.2.2 0 0 pf [] [] []) fun J=>J0 z q x4 A J.2 0 0 pf [] [] [] ([]:LB) 0 F.1 J.1))))
def o5 (k:Nat) (t:Tm) (I:Tm×Bool×Int->OS S):OS S:=az9 k I (fun O T x4 W z A B E F J L q HV M x=>Q7 k I O T x4 W k z A B E F J L q HV M x) t
def e9 (k:Nat) (t:Tm) (I:Tm×Bool×Int->OS S):OS S:=aa k (DS k (ac t)) fun r1=>ab (!(r1==0)) (I ((Tm.mk 0 0 pf [] [] []),false,r1)) (ab (!(t.k==14)) (I ((Tm.mk 0 0 pf [] [] []),false,0)) (dJ k (ac t) fun x=>oa (af x.c 1) fun x3=>oa (af x.c 0) fun x4=>ab (x4.k==3) (aa k (ly k (ac x3) 0) fun F=>I ((ac F.1),F.2.1,F.2.2.1)) (ab (x4.k==19) (aa k (ly k (ac x3) 0) fun J=>I ((ac J.1),J.2.1,J.2.2.1)) (ab (x4.k==4) (aa k (q5 k (ac x4) 0 x.r x3.k x3.n x3.name x3.r x3.c x3.s) fun B=>aa k (ly k (Tm.mk B.1 B.2.1 B.2.2.1 [] B.2.2.2.1 []) B.2.2.2.2) fun L=>I ((ac L.1),L.2.1,L.2.2.1)) (ab (x4.k==7) (aa k (o4 k (ac x4) 0 x.r x3.k x3.n x3.name x3.r x3.c x3.s) fun E=>aa k (ly k (Tm.mk E.1 E.2.1 E.2.2.1 [] E.2.2.2.1 []) E.2.2.2.2) fun z=>I ((ac z.1),z.2.1,z.2.2.1)) (ab (x4.k==11) (aa k (p4 k (ac x4) 0 x.r x3.k x3.n x3.name x3.r x3.c x3.s) fun q=>aa k (ly k (Tm.mk q.1 q.2.1 q.2.2.1 [] q.2.2.2.1 []) q.2.2.2.2) fun A=>I ((ac A.1),A.2.1,A.2.2.1)) (ab (x4.k==23) (aa k (JG k (ac x)) fun r13=>I ((ac r13.1),r13.2.1,r13.2.2)) (ab (x4.k==16) (aa k (o5 k (ac x)) fun r14=>I ((ac r14.1),r14.2.1,r14.2.2)) (I ((Tm.mk 0 0 pf [] [] []),false,0))))))))))
def k5 (k:Nat) (u:Tm) (uA qT qR:Int) (qM:BA) (qK:LC) (qJ:LT) (qI qW:LB) (I:LT×Int->OS S):OS S:=aa k (zb k (ac u) 1 0 uA) fun r1=>aa k (Nq k 0) fun x=>aa k (zc k 6 [(ac r1.1),(Tm.mk x.1 x.2.1 x.2.2 [] [] [])]) fun q=>I ([(Tm.mk q.1 q.2.1 q.2.2.1 [] q.2.2.2 [])],r1.2)
def e2 (k:Nat) (I:LB×Int->OS S) (nU oU:Int) (oT:BA) (o0:LC) (oV:LT) (oW nW:LB) (z:Int->Int->(LB)->OS S) (A x:Int) (q:LB):OS S:=ab (decide ((x:Int)<(nW.length:Int))) (oa (af nW x) fun x1=>oa (af x1.c 0) fun x2=>aa k (k5 k (ac x2) A nU oU oT o0 oV oW nW) fun B=>aa k (wm k x1.f B.1) fun E=>oa (aw 1099511627776 q.length [E].length) fun x5=>z B.2 (ot .i64 (x+1)) (q++[E])) (I (q,A))
def jc (k:Nat) (I:LB×Int->OS S) (nU oU:Int) (oT:BA) (o0:LC) (oV:LT) (oW nW:LB):Nat->Int->Int->(LB)->OS S
 |0=>fun _ _ _=> .none
 |m+1=>fun x z q=>e2 k I nU oU oT o0 oV oW nW (jc k I nU oU oT o0 oV oW nW m) x z q
def aAf (k:Nat) (I:LB×Int->OS S) (J0:Int->Int->(LB)->OS S) (nX nU oU:Int) (oT:BA) (o0:LC) (oV:LT) (oW nW:LB):OS S:=J0 nX 0 ([]:LB)
def k9 (k:Nat) (nX nU oU:Int) (oT:BA) (o0:LC) (oV:LT) (oW nW:LB) (I:LB×Int->OS S):OS S:=aAf k I (fun x z q=>jc k I nU oU oT o0 oV oW nW k x z q) nX nU oU oT o0 oV oW nW
def hD (k:Nat) (t:Tm) (nX nU oU:Int) (oT:BA) (o0:LC) (oV:LT) (oW nW:LB) (I:Int×Int×BA×LT×Int->OS S):OS S:=aa k (zb k (Tm.mk nU oU oT o0 oV oW) 1 0 nX) fun r1=>aa k (Nq k 0) fun A=>aa k (zc k 6 [(ac r1.1),(Tm.mk A.1 A.2.1 A.2.2 [] [] [])]) fun x=>aa k (k9 k r1.2 nU oU oT o0 oV oW nW) fun B=>oa (af t.c 1) fun x5=>aa k (JM k 15 B.1 [(ac x5),(Tm.mk x.1 x.2.1 x.2.2.1 [] x.2.2.2 [])]) fun q=>aa k (zc k 5 [(Tm.mk q.1 q.2.1 q.2.2.1 [] q.2.2.2.1 q.2.2.2.2)]) fun z=>I (z.1,z.2.1,z.2.2.1,z.2.2.2,B.2)
def aza (k:Nat) (u:Tm) (c0:Int) (I:LT->OS S):OS S:=aa k (zc k c0 [(ac u)]) fun r1=>I [(Tm.mk r1.1 r1.2.1 r1.2.2.1 [] r1.2.2.2 [])]
def r3 (k:Nat) (I:LB->OS S) (nX nU oU:Int) (oT:BA) (o0:LC) (oV:LT) (oW nW:LB) (c1:Int) (z:Int->(LB)->OS S) (x:Int) (q:LB):OS S:=ab (decide ((x:Int)<(nW.length:Int))) (oa (af nW x) fun x1=>oa (af x1.c 0) fun x2=>aa k (aza k (ac x2) c1) fun B=>aa k (wm k x1.f B) fun A=>oa (aw 1099511627776 q.length [A].length) fun x5=>z (ot .i64 (x+1)) (q++[A])) (I q)
def kk (k:Nat) (I:LB->OS S) (nX nU oU:Int) (oT:BA) (o0:LC) (oV:LT) (oW nW:LB) (c1:Int):Nat->Int->(LB)->OS S
 |0=>fun _ _=> .none
 |m+1=>fun x q=>r3 k I nX nU oU oT o0 oV oW nW c1 (kk k I nX nU oU oT o0 oV oW nW c1 m) x q
def aAh (k:Nat) (I:LB->OS S) (J0:Int->(LB)->OS S) (nX nU oU:Int) (oT:BA) (o0:LC) (oV:LT) (oW nW:LB) (c1:Int):OS S:=J0 0 ([]:LB)
def h9 (k:Nat) (nX nU oU:Int) (oT:BA) (o0:LC) (oV:LT) (oW nW:LB) (c1:Int) (I:LB->OS S):OS S:=aAh k I (fun x q=>kk k I nX nU oU oT o0 oV oW nW c1 k x q) nX nU oU oT o0 oV oW nW c1
def sq (k:Nat) (kind uA qT qR:Int) (qM:BA) (qK:LC) (qJ:LT) (qI qW:LB) (I:Int×Int×BA×LT×LB->OS S):OS S:=aa k (zc k kind [(Tm.mk qT qR qM qK qJ qI)]) fun r1=>aa k (h9 k uA qT qR qM qK qJ qI qW kind) fun q=>I (r1.1,r1.2.1,r1.2.2.1,r1.2.2.2,q)
def e3 (k:Nat) (t:Tm) (nX nU oU:Int) (oT:BA) (o0:LC) (oV:LT) (oW nW:LB) (I:Int×Int×BA×LT×Int->OS S):OS S:=aa k (sq k 9 nX nU oU oT o0 oV oW nW) fun r1=>aa k (sq k 10 nX nU oU oT o0 oV oW nW) fun x=>oa (af t.c 0) fun x3=>aa k (y_ k (ac x3) (Tm.mk r1.1 r1.2.1 r1.2.2.1 [] r1.2.2.2.1 []) r1.2.2.2.2 nX) fun B=>oa (af t.c 1) fun x5=>aa k (RU k (ac x5) 0 1 B.2) fun E=>aa k (za k (ac E.1) (ac B.1) E.2) fun F=>oa (af t.c 0) fun J=>aa k (JM k 15 r1.2.2.2.2 [(ac J),(Tm.mk r1.1 r1.2.1 r1.2.2.1 [] r1.2.2.2.1 [])]) fun z=>aa k (y9 k (ac F.1) (Tm.mk x.1 x.2.1 x.2.2.1 [] x.2.2.2.1 []) x.2.2.2.2 F.2) fun A=>aa k (zc k 8 [(Tm.mk z.1 z.2.1 z.2.2.1 [] z.2.2.2.1 z.2.2.2.2),(ac A.1)]) fun q=>I (q.1,q.2.1,q.2.2.1,q.2.2.2,A.2)
def o7 (k:Nat) (I:Int×Int×BA×LT×Int->OS S) (nU oU:Int) (oT:BA) (o0:LC) (oV:LT) (oW nW:LB) (t x1 x2:Tm) (r6:Int×Int×BA×LC×LT) (B:Int->(LB)->Int->OS S) (E:Int) (q:LB) (v53:Int):OS S:=ab (decide ((v53:Int)<(nW.length:Int))) (oa (af nW v53) fun Y=>aa k (JK k Y.f 1 E) fun r8=>oa (af Y.c 0) fun x9=>aa k (JJ k (ac x9) 1 r8.2) fun F=>aa k (zb k (ac x1) 0 2 F.2) fun J=>aa k (zb k (ac x2) 0 2 J.2) fun L=>aa k (tO k 13 [(Cl.mk 2 0)] [(ac F.1),(ac J.1),(ac L.1)]) fun r13=>aa k (wm k r8.1 [(Tm.mk r13.1 r13.2.1 r13.2.2.1 r13.2.2.2.1 r13.2.2.2.2 [])]) fun r14=>oa (aw 1099511627776 q.length [r14].length) fun ad=>B L.2 (q++[r14]) (ot .i64 (v53+1))) (aa k (zb k (ac x1) 0 2 E) fun M=>aa k (wm k [(Cl.mk 0 1)] [(ac M.1)]) fun A=>oa (aw 1099511627776 q.length [A].length) fun ao=>aa k (zb k (ac x2) 0 2 M.2) fun O=>aa k (wm k [(Cl.mk 1 0)] [(ac O.1)]) fun T=>oa (aw 1099511627776 (q++[A]).length [T].length) fun ax=>oa (af t.c 0) fun W=>aa k (JM k 15 ((q++[A])++[T]) [(ac W),(Tm.mk r6.1 r6.2.1 r6.2.2.1 r6.2.2.2.1 r6.2.2.2.2 [])]) fun x=>aa k (zc k 12 [(Tm.mk x.1 x.2.1 x.2.2.1 [] x.2.2.2.1 x.2.2.2.2)]) fun z=>I (z.1,z.2.1,z.2.2.1,z.2.2.2,O.2))
def e8 (k:Nat) (I:Int×Int×BA×LT×Int->OS S) (nU oU:Int) (oT:BA) (o0:LC) (oV:LT) (oW nW:LB) (t x1 x2:Tm) (r6:Int×Int×BA×LC×LT):Nat->Int->(LB)->Int->OS S
 |0=>fun _ _ _=> .none
 |m+1=>fun x q v53=>o7 k I nU oU oT o0 oV oW nW t x1 x2 r6 (e8 k I nU oU oT o0 oV oW nW t x1 x2 r6 m) x q v53
def aAe (k:Nat) (I:Int×Int×BA×LT×Int->OS S) (J0:Tm->Tm->(Int×Int×BA×LC×LT)->Int->(LB)->Int->OS S) (t:Tm) (nX nU oU:Int) (oT:BA) (o0:LC) (oV:LT) (oW nW:LB):OS S:=oa (af t.c 1) fun x1=>oa (af t.c 2) fun x2=>aa k (zb k (Tm.mk nU oU oT o0 oV oW) 0 1 nX) fun q=>aa k (zb k (ac x1) 0 1 q.2) fun x=>aa k (zb k (ac x2) 0 1 x.2) fun z=>aa k (tO k 13 [(Cl.mk 1 0)] [(ac q.1),(ac x.1),(ac z.1)]) fun A=>J0 x1 x2 A z.2 ([]:LB) 0
def hS (k:Nat) (t:Tm) (nX nU oU:Int) (oT:BA) (o0:LC) (oV:LT) (oW nW:LB) (I:Int×Int×BA×LT×Int->OS S):OS S:=aAe k I (fun x1 x2 z x q v53=>e8 k I nU oU oT o0 oV oW nW t x1 x2 z k x q v53) t nX nU oU oT o0 oV oW nW
def bn (k:Nat) (t:Tm) (c0:Int) (I:Int×Int×BA×LT×Int->OS S):OS S:=aa k (Bw k (ac t) 1 0 c0) fun r1=>aa k (Bw k (ac t) 2 1 r1.2) fun E=>aa k (Ir k 1) fun A=>aa k (Ir k 0) fun B=>aa k (wv k 11 [(ac E.1),(Tm.mk A.1 A.2.1 A.2.2 [] [] []),(Tm.mk B.1 B.2.1 B.2.2 [] [] [])]) fun q=>aa k (wv k 4 [(ac r1.1),(Tm.mk q.1 q.2.1 q.2.2.1 [] q.2.2.2 [])]) fun x=>aa k (wv k 7 [(ac t),(Tm.mk x.1 x.2.1 x.2.2.1 [] x.2.2.2 [])]) fun z=>I (z.1,z.2.1,z.2.2.1,z.2.2.2,E.2)
def Am (k:Nat) (t a:Tm) (I:Tm×Int->OS S):OS S:=aa k (m9 k [(ac t),(ac a)]) fun r1=>dJ k (ac t) fun O=>aa k (Bw k (ac a) 1 0 r1) fun F=>aa k (wv k 4 [(ac O),(ac F.1)]) fun A=>aa k (Bw k (ac a) 1 0 F.2) fun J=>aa k (Bw k (ac t) 2 0 J.2) fun L=>aa k (Bw k (ac a) 2 0 L.2) fun M=>aa k (Ir k 1) fun B=>aa k (Ir k 0) fun E=>aa k (SC k (ac L.1) (ac M.1) (Tm.mk B.1 B.2.1 B.2.2 [] [] []) (Tm.mk E.1 E.2.1 E.2.2 [] [] []) M.2) fun q=>aa k (bn k (Tm.mk q.1 q.2.1 q.2.2.1 [] q.2.2.2.1 []) q.2.2.2.2) fun x=>aa k (wv k 4 [(ac J.1),(Tm.mk x.1 x.2.1 x.2.2.1 [] x.2.2.2.1 [])]) fun z=>aa k (wv k 7 [(Tm.mk A.1 A.2.1 A.2.2.1 [] A.2.2.2 []),(Tm.mk z.1 z.2.1 z.2.2.1 [] z.2.2.2 [])]) fun r13=>aa k (eQ k (Tm.mk r13.1 r13.2.1 r13.2.2.1 [] r13.2.2.2 []) x.2.2.2.2) fun r14=>I ((ac r14.1),r14.2.1)
def qw (k:Nat) (t a:Tm) (c0:Int) (I:Tm×Int->OS S):OS S:=aa k (dG k c0) fun r1=>ab (!r1) (I ((Tm.mk 0 0 pf [] [] []),c0)) (aa k (Am k (ac t) (ac a)) fun q=>aa k (Hv k (ac q.1) q.2 c0) fun x=>I ((ac x.1),x.2))
def ay2 (k:Nat) (rf:LC) (I:Int×Int×BA×LC×LT->OS S):OS S:=aa k (Ir k 0) fun r1=>aa k (wv k 10 [(Tm.mk r1.1 r1.2.1 r1.2.2 [] [] [])]) fun q=>aa k (Ir k 1) fun z=>aa k (Ir k 0) fun A=>aa k (wv k 9 [(Tm.mk A.1 A.2.1 A.2.2 [] [] [])]) fun x=>I (13,0,pf,rf,[(Tm.mk q.1 q.2.1 q.2.2.1 [] q.2.2.2 []),(Tm.mk z.1 z.2.1 z.2.2 [] [] []),(Tm.mk x.1 x.2.1 x.2.2.1 [] x.2.2.2 [])])
def c5 (k:Nat) (I:Int×Int×BA×LT->OS S):OS S:=aa k (Ir k 0) fun r1=>aa k (Ir k 0) fun T=>aa k (wv k 12 [(Tm.mk T.1 T.2.1 T.2.2 [] [] [])]) fun F=>aa k (wv k 8 [(Tm.mk r1.1 r1.2.1 r1.2.2 [] [] []),(Tm.mk F.1 F.2.1 F.2.2.1 [] F.2.2.2 [])]) fun J=>aa k (ay2 k [(Cl.mk 1 0)]) fun B=>aa k (ay2 k [(Cl.mk 3 0)]) fun E=>aa k (wv k 12 [(Tm.mk E.1 E.2.1 E.2.2.1 E.2.2.2.1 E.2.2.2.2 [])]) fun L=>aa k (wv k 8 [(Tm.mk B.1 B.2.1 B.2.2.1 B.2.2.2.1 B.2.2.2.2 []),(Tm.mk L.1 L.2.1 L.2.2.1 [] L.2.2.2 [])]) fun M=>aa k (wv k 12 [(Tm.mk M.1 M.2.1 M.2.2.1 [] M.2.2.2 [])]) fun O=>aa k (wv k 5 [(Tm.mk O.1 O.2.1 O.2.2.1 [] O.2.2.2 [])]) fun q=>aa k (Ir k 0) fun A=>aa k (wv k 5 [(Tm.mk A.1 A.2.1 A.2.2 [] [] [])]) fun x=>aa k (wv k 8 [(Tm.mk J.1 J.2.1 J.2.2.1 [] J.2.2.2 []),(Tm.mk q.1 q.2.1 q.2.2.1 [] q.2.2.2 [])]) fun r13=>aa k (wv k 5 [(Tm.mk r13.1 r13.2.1 r13.2.2.1 [] r13.2.2.2 [])]) fun r14=>aa k (wv k 8 [(Tm.mk x.1 x.2.1 x.2.2.1 [] x.2.2.2 []),(Tm.mk r14.1 r14.2.1 r14.2.2.1 [] r14.2.2.2 [])]) fun z=>I (z.1,z.2.1,z.2.2.1,z.2.2.2)
def azb (k:Nat) (u:Tm) (uA qT qR:Int) (qM:BA) (qK:LC) (qJ:LT) (qI qW:LB) (I:LT×Int->OS S):OS S:=aa k (JI k (ac u) uA) fun r1=>aa k (zb k (Tm.mk qT qR qM qK qJ qI) 0 1 r1.2) fun z=>aa k (qw k (ac u) (ac z.1) z.2) fun A=>aa k (c5 k) fun q=>aa k (zc k 14 [(ac A.1),(Tm.mk q.1 q.2.1 q.2.2.1 [] q.2.2.2 [])]) fun x=>I ([(ac r1.1),(Tm.mk x.1 x.2.1 x.2.2.1 [] x.2.2.2 [])],A.2)
def u' (k:Nat) (I:LB×Int->OS S) (nU oU:Int) (oT:BA) (o0:LC) (oV:LT) (oW nW:LB) (z:Int->Int->(LB)->OS S) (A x:Int) (q:LB):OS S:=ab (decide ((x:Int)<(nW.length:Int))) (oa (af nW x) fun x1=>oa (af x1.c 0) fun x2=>aa k (azb k (ac x2) A nU oU oT o0 oV oW nW) fun B=>aa k (wm k x1.f B.1) fun E=>oa (aw 1099511627776 q.length [E].length) fun x5=>z B.2 (ot .i64 (x+1)) (q++[E])) (I (q,A))
def vy (k:Nat) (I:LB×Int->OS S) (nU oU:Int) (oT:BA) (o0:LC) (oV:LT) (oW nW:LB):Nat->Int->Int->(LB)->OS S
 |0=>fun _ _ _=> .none
 |m+1=>fun x z q=>u' k I nU oU oT o0 oV oW nW (vy k I nU oU oT o0 oV oW nW m) x z q
def aAg (k:Nat) (I:LB×Int->OS S) (J0:Int->Int->(LB)->OS S) (nX nU oU:Int) (oT:BA) (o0:LC) (oV:LT) (oW nW:LB):OS S:=J0 nX 0 ([]:LB)
def fk (k:Nat) (nX nU oU:Int) (oT:BA) (o0:LC) (oV:LT) (oW nW:LB) (I:LB×Int->OS S):OS S:=aAg k I (fun x z q=>vy k I nU oU oT o0 oV oW nW k x z q) nX nU oU oT o0 oV oW nW
def dn (k:Nat) (nX nU oU:Int) (oT:BA) (o0:LC) (oV:LT) (oW nW:LB) (I:Int×Int×BA×LT×LB×Int->OS S):OS S:=aa k (fk k nX nU oU oT o0 oV oW nW) fun r1=>aa k (JM k 16 r1.1 [(Tm.mk nU oU oT o0 oV oW)]) fun q=>I (q.1,q.2.1,q.2.2.1,q.2.2.2.1,q.2.2.2.2,r1.2)
def ds (k:Nat) (sQ:(Br Tm)) (c1:LB) (c2:Int) (I:(Br Tm)×Int->OS S):OS S:=aa k (zc k 3 ([]:LT)) fun r1=>aa k (Ni k (Tm.mk r1.1 r1.2.1 r1.2.2.1 [] r1.2.2.2 []) c1) fun x=>aa k (zb k (Tm.mk x.1 x.2.1 x.2.2.1 [] x.2.2.2.1 x.2.2.2.2) 0 1 c2) fun q=>oa (af sQ.c 0) fun x4=>aa k (wm k sQ.f [(Tm.mk q.1.k q.1.n q.1.name q.1.r [(ac x4)] q.1.s)]) fun z=>I (z,q.2)
def Z0 (k:Nat) (I:LB×Int->OS S) (c1 l:LB) (x:Int->Int->(LB)->OS S) (z qm:Int) (q:LB):OS S:=ab (decide ((qm:Int)<(l.length:Int))) (oa (af l qm) fun x1=>aa k (ds k x1 c1 z) fun A=>oa (aw 1099511627776 q.length [A.1].length) fun x3=>x A.2 (ot .i64 (qm+1)) (q++[A.1])) (I (q,z))
def fe (k:Nat) (I:LB×Int->OS S) (c1 l:LB):Nat->Int->Int->(LB)->OS S
 |0=>fun _ _ _=> .none
 |m+1=>fun x qm q=>Z0 k I c1 l (fe k I c1 l m) x qm q
def aDn (k:Nat) (I:LB×Int->OS S) (J0:Int->Int->(LB)->OS S) (l c1:LB) (c2:Int):OS S:=J0 c2 0 ([]:LB)
def aAQ (k:Nat) (l c1:LB) (c2:Int) (I:LB×Int->OS S):OS S:=aDn k I (fun x qm q=>fe k I c1 l k x qm q) l c1 c2
def H5 (k:Nat) (sQ:(Br Tm)) (c1 c2:Tm) (c3:Int) (I:(Br Tm)×Int->OS S):OS S:=oa (af sQ.c 1) fun x1=>aa k (zb k (ac x1) 0 1 c3) fun z=>aa k (Nk k (ac z.1)) fun q=>oa (af sQ.c 0) fun x4=>aa k (y_ k (ac x4) (ac c1) c2.s z.2) fun A=>aa k (zc k 6 [(Tm.mk q.1 q.2.1 q.2.2.1 [] q.2.2.2 []),(ac A.1)]) fun x=>aa k (wm k sQ.f [(Tm.mk x.1 x.2.1 x.2.2.1 [] x.2.2.2 [])]) fun B=>I (B,A.2)
def d' (k:Nat) (I:LB×Int->OS S) (c1 c2:Tm) (l:LB) (x:Int->Int->(LB)->OS S) (z qm:Int) (q:LB):OS S:=ab (decide ((qm:Int)<(l.length:Int))) (oa (af l qm) fun x1=>aa k (H5 k x1 (ac c1) (ac c2) z) fun A=>oa (aw 1099511627776 q.length [A.1].length) fun x3=>x A.2 (ot .i64 (qm+1)) (q++[A.1])) (I (q,z))
def mg (k:Nat) (I:LB×Int->OS S) (c1 c2:Tm) (l:LB):Nat->Int->Int->(LB)->OS S
 |0=>fun _ _ _=> .none
 |m+1=>fun x qm q=>d' k I c1 c2 l (mg k I c1 c2 l m) x qm q
def aDm (k:Nat) (I:LB×Int->OS S) (J0:Int->Int->(LB)->OS S) (l:LB) (c1 c2:Tm) (c3:Int):OS S:=J0 c3 0 ([]:LB)
def ay9 (k:Nat) (l:LB) (c1 c2:Tm) (c3:Int) (I:LB×Int->OS S):OS S:=aDm k I (fun x qm q=>mg k I c1 c2 l k x qm q) l c1 c2 c3
def ay6 (k:Nat) (sQ:(Br Tm)) (c0 c1:Tm) (I:(Br Tm)->OS S):OS S:=oa (af sQ.c 0) fun x1=>aa k (JM k 15 c0.s [(ac x1),(ac c1)]) fun q=>aa k (wm k sQ.f [(Tm.mk q.1 q.2.1 q.2.2.1 [] q.2.2.2.1 q.2.2.2.2)]) fun x=>I x
def ec (k:Nat) (I:LB->OS S) (c0 c1:Tm) (l:LB) (x:Int->(LB)->OS S) (qm:Int) (q:LB):OS S:=ab (decide ((qm:Int)<(l.length:Int))) (oa (af l qm) fun x1=>aa k (ay6 k x1 (ac c0) (ac c1)) fun z=>oa (aw 1099511627776 q.length [z].length) fun x3=>x (ot .i64 (qm+1)) (q++[z])) (I q)
def zv (k:Nat) (I:LB->OS S) (c0 c1:Tm) (l:LB):Nat->Int->(LB)->OS S
 |0=>fun _ _=> .none
 |m+1=>fun qm q=>ec k I c0 c1 l (zv k I c0 c1 l m) qm q
def aAb (k:Nat) (I:LB->OS S) (J0:Int->(LB)->OS S) (l:LB) (c0 c1:Tm):OS S:=J0 0 ([]:LB)
def p6 (k:Nat) (l:LB) (c0 c1:Tm) (I:LB->OS S):OS S:=aAb k I (fun qm q=>zv k I c0 c1 l k qm q) l c0 c1
def n' (k:Nat) (t:Tm) (I:Tm×Bool×Int->OS S):OS S:=aa k (DS k (ac t)) fun r1=>ab (!(r1==0)) (I ((Tm.mk 0 0 pf [] [] []),false,r1)) (ab (!(t.k==15)) (I ((Tm.mk 0 0 pf [] [] []),false,0)) (oa (af t.c 0) fun x2=>ab (!(x2.k==16)) (I ((Tm.mk 0 0 pf [] [] []),false,0)) (dJ k (ac t) fun A=>oa (af A.c 0) fun x4=>oa (af A.c 1) fun x5=>oa (af A.c 0) fun x6=>aa k (SB k (ac x6)) fun J=>aa k (aAQ k A.s J 0) fun B=>aa k (ay9 k x4.s (ac x5) (ac A) B.2) fun E=>oa (aw 1099511627776 B.1.length E.1.length) fun L=>oa (af x4.c 0) fun F=>aa k (Ni k (ac x5) J) fun q=>aa k (JM k 15 (B.1++E.1) [(ac F),(Tm.mk q.1 q.2.1 q.2.2.1 [] q.2.2.2.1 q.2.2.2.2)]) fun r13=>aa k (p6 k x4.s (ac A) (ac x5)) fun r14=>aa k (JM k 17 r14 [(Tm.mk r13.1 r13.2.1 r13.2.2.1 [] r13.2.2.2.1 r13.2.2.2.2)]) fun x=>aa k (ly k (Tm.mk x.1 x.2.1 x.2.2.1 [] x.2.2.2.1 x.2.2.2.2) E.2) fun z=>I ((ac z.1),z.2.1,z.2.2.1))))
def cG (k:Nat) (t:Tm) (I:Tm×Bool×Int->OS S):OS S:=aa k (DS k (ac t)) fun r1=>ab (!(r1==0)) (I ((Tm.mk 0 0 pf [] [] []),false,r1)) (ab (!(t.k==15)) (I ((Tm.mk 0 0 pf [] [] []),false,0)) (dJ k (ac t) fun x=>oa (af x.c 1) fun x3=>oa (af x.c 0) fun x4=>ab (x4.k==4) (aa k (hD k (ac x4) 0 x3.k x3.n x3.name x3.r x3.c x3.s x.s) fun B=>aa k (ly k (Tm.mk B.1 B.2.1 B.2.2.1 [] B.2.2.2.1 []) B.2.2.2.2) fun J=>I ((ac J.1),J.2.1,J.2.2.1)) (ab (x4.k==7) (aa k (e3 k (ac x4) 0 x3.k x3.n x3.name x3.r x3.c x3.s x.s) fun E=>aa k (ly k (Tm.mk E.1 E.2.1 E.2.2.1 [] E.2.2.2.1 []) E.2.2.2.2) fun L=>I ((ac L.1),L.2.1,L.2.2.1)) (ab (x4.k==11) (aa k (hS k (ac x4) 0 x3.k x3.n x3.name x3.r x3.c x3.s x.s) fun F=>aa k (ly k (Tm.mk F.1 F.2.1 F.2.2.1 [] F.2.2.2.1 []) F.2.2.2.2) fun z=>I ((ac z.1),z.2.1,z.2.2.1)) (ab (x4.k==3) (aa k (dn k 0 x3.k x3.n x3.name x3.r x3.c x3.s x.s) fun q=>aa k (ly k (Tm.mk q.1 q.2.1 q.2.2.1 [] q.2.2.2.1 q.2.2.2.2.1) q.2.2.2.2.2) fun A=>I ((ac A.1),A.2.1,A.2.2.1)) (ab (x4.k==16) (aa k (n' k (ac x)) fun r13=>I ((ac r13.1),r13.2.1,r13.2.2)) (I ((Tm.mk 0 0 pf [] [] []),false,0))))))))
def co (k:Nat) (I:Tm×Bool×Int->OS S) (t:Tm) (defs:List Df):OS S:=aa k (cR k defs (ac t)) fun q=>ab (q.2) (I ((ac q.1),true,0)) (I ((Tm.mk 0 0 pf [] [] []),false,0))
def bK (k:Nat) (I:Tm×Bool×Int->OS S) (t:Tm) (defs:List Df):Nat->OS S
 |0=> .none
 |_+1=>co k I t defs
def RO (k:Nat) (I:Tm×Bool×Int->OS S) (t:Tm) (defs:List Df) (J1:OS S) (F:Int->Int->BA->(LC)->(LT)->(LB)->Int->Int->Bool->OS S) (J L:Int) (M:BA) (O:LC) (T:LT) (E:LB) (qm xp:Int) (q:Bool):OS S:=ab (decide ((xp:Int)<4)) (ab (xp==0) (aa k (qG k (ac t)) fun x=>ab (x.2.1) (ab (x.2.1) (I ((ac x.1),x.2.1,x.2.2)) (ab (!(x.2.2==0)) (I ((ac x.1),x.2.1,x.2.2)) (J1))) (ab (!(x.2.2==0)) (ab (x.2.1) (I ((ac x.1),x.2.1,x.2.2)) (ab (!(x.2.2==0)) (I ((ac x.1),x.2.1,x.2.2)) (J1))) (F x.1.k x.1.n x.1.name x.1.r x.1.c x.1.s x.2.2 (ot .i64 (xp+1)) x.2.1))) (ab (xp==1) (aa k (tL k (ac t)) fun z=>ab (z.2.1) (ab (z.2.1) (I ((ac z.1),z.2.1,z.2.2)) (ab (!(z.2.2==0)) (I ((ac z.1),z.2.1,z.2.2)) (J1))) (ab (!(z.2.2==0)) (ab (z.2.1) (I ((ac z.1),z.2.1,z.2.2)) (ab (!(z.2.2==0)) (I ((ac z.1),z.2.1,z.2.2)) (J1))) (F z.1.k z.1.n z.1.name z.1.r z.1.c z.1.s z.2.2 (ot .i64 (xp+1)) z.2.1))) (ab (xp==2) (aa k (e9 k (ac t)) fun A=>ab (A.2.1) (ab (A.2.1) (I ((ac A.1),A.2.1,A.2.2)) (ab (!(A.2.2==0)) (I ((ac A.1),A.2.1,A.2.2)) (J1))) (ab (!(A.2.2==0)) (ab (A.2.1) (I ((ac A.1),A.2.1,A.2.2)) (ab (!(A.2.2==0)) (I ((ac A.1),A.2.1,A.2.2)) (J1))) (F A.1.k A.1.n A.1.name A.1.r A.1.c A.1.s A.2.2 (ot .i64 (xp+1)) A.2.1))) (ab (xp==3) (aa k (cG k (ac t)) fun B=>ab (B.2.1) (ab (B.2.1) (I ((ac B.1),B.2.1,B.2.2)) (ab (!(B.2.2==0)) (I ((ac B.1),B.2.1,B.2.2)) (J1))) (ab (!(B.2.2==0)) (ab (B.2.1) (I ((ac B.1),B.2.1,B.2.2)) (ab (!(B.2.2==0)) (I ((ac B.1),B.2.1,B.2.2)) (J1))) (F B.1.k B.1.n B.1.name B.1.r B.1.c B.1.s B.2.2 (ot .i64 (xp+1)) B.2.1))) (ab (q) (ab (q) (I ((Tm.mk J L M O T E),q,qm)) (ab (!(qm==0)) (I ((Tm.mk J L M O T E),q,qm)) (J1))) (ab (!(qm==0)) (ab (q) (I ((Tm.mk J L M O T E),q,qm)) (ab (!(qm==0)) (I ((Tm.mk J L M O T E),q,qm)) (J1))) (F J L M O T E qm (ot .i64 (xp+1)) q))))))) (ab (q) (I ((Tm.mk J L M O T E),q,qm)) (ab (!(qm==0)) (I ((Tm.mk J L M O T E),q,qm)) (J1)))
def bH (k:Nat) (I:Tm×Bool×Int->OS S) (t:Tm) (defs:List Df):Nat->Int->Int->BA->(LC)->(LT)->(LB)->Int->Int->Bool->OS S
 |0=>fun _ _ _ _ _ _ _ _ _=> .none
 |m+1=>fun z A B E F x qm xp q=>RO k I t defs (bK k I t defs k) (bH k I t defs m) z A B E F x qm xp q
def aAp (k:Nat) (I:Tm×Bool×Int->OS S) (J0:Int->Int->BA->(LC)->(LT)->(LB)->Int->Int->Bool->OS S) (defs:List Df) (t:Tm):OS S:=aa k (DS k (ac t)) fun r1=>ab (!(r1==0)) (I ((Tm.mk 0 0 pf [] [] []),false,r1)) (J0 0 0 pf [] [] [] 0 0 false)
def a_ (k:Nat) (defs:List Df) (t:Tm) (I:Tm×Bool×Int->OS S):OS S:=aAp k I (fun z A B E F x qm xp q=>bH k I t defs k z A B E F x qm xp q) defs t
def fU (k:Nat) (I:px (Int×Int) (Tm×Bool×Int)->OS S) (nX:List Df) (nU:Int) (r1:Tm×Bool×Int):OS S:=ab (nU==0) (I (.bD (220,nU))) (I (.ok ((ac r1.1),true,ot .i64 (nU-1))))
def dd (k:Nat) (I:px (Int×Int) (Tm×Bool×Int)->OS S) (nX:List Df) (nU:Int) (r1:Tm×Bool×Int):Nat->OS S
 |0=> .none
 |_+1=>fU k I nX nU r1
def l3 (k:Nat) (I:px (Int×Int) (Tm×Bool×Int)->OS S) (nX:List Df) (nU:Int) (t:Tm) (r1:Tm×Bool×Int) (J1:OS S):OS S:=ab (!r1.2.1) (ab (r1.2.2==0) (I (.ok ((ac t),false,nU))) (J1)) (J1)
def azv (k:Nat) (I:px (Int×Int) (Tm×Bool×Int)->OS S) (nX:List Df) (nU:Int) (t:Tm) (r1:Tm×Bool×Int):Nat->OS S
 |0=> .none
 |_+1=>l3 k I nX nU t r1 (dd k I nX nU r1 k)
def ox (k:Nat) (I:px (Int×Int) (Tm×Bool×Int)->OS S) (J0:(Tm×Bool×Int)->OS S) (t:Tm) (nX:List Df) (nU:Int):OS S:=aa k (a_ k nX (ac t)) fun r1=>ab (!(r1.2.2==0)) (ab (decide ((nU:Int)>0)) (I (.bD (r1.2.2,nU))) (J0 r1)) (J0 r1)
def pX (k:Nat) (t:Tm) (nX:List Df) (nU:Int) (I:px (Int×Int) (Tm×Bool×Int)->OS S):OS S:=ox k I (fun r1=>azv k I nX nU t r1 k) t nX nU
def bo (k:Nat) (I:Int->OS S) (t:Tm) (v3:Int):OS S:=aa k (zA k t.k) fun r1=>ab (decide (((t.c.length:Int):Int)<r1)) (I (-1)) (I v3)
def aV (k:Nat) (I:Int->OS S) (t:Tm):Nat->Int->OS S
 |0=>fun _=> .none
 |_+1=>fun v3=>bo k I t v3
def aAo (k:Nat) (I:Int->OS S) (J0:Int->OS S) (t:Tm):OS S:=ab (t.k==6) (J0 0) (ab (t.k==9) (J0 0) (ab (t.k==10) (J0 0) (ab (t.k==13) (J0 0) (ab (t.k==18) (J0 0) (ab (t.k==15) (J0 0) (ab (t.k==14) (J0 0) (ab (t.k==22) (J0 3) (ab (t.k==27) (J0 4) (J0 (-1))))))))))
def aU (k:Nat) (t:Tm) (I:Int->OS S):OS S:=aAo k I (fun v3=>aV k I t k v3) t
abbrev B9 (S:Type):=Tm->Tm->(Bool->OS S)->OS S
def r9 (hd:B9 S) (k:Nat) (I:Bool->OS S) (s2 s1:LT) (q:Int->OS S) (ox:Int):OS S:=ab (decide ((ox:Int)<(s1.length:Int))) (oa (af s1 ox) fun x1=>oa (af s2 ox) fun x2=>hd (ac x1) (ac x2) fun x=>ab (!x) (I false) (q (ot .i64 (ox+1)))) (I true)
def xf (hd:B9 S) (k:Nat) (I:Bool->OS S) (s2 s1:LT):Nat->Int->OS S
 |0=>fun _=> .none
 |m+1=>fun ox=>r9 hd k I s2 s1 (xf hd k I s2 s1 m) ox
def aAm (hd:B9 S) (k:Nat) (I:Bool->OS S) (J0:Int->OS S) (s1 s2:LT):OS S:=ab (!((s1.length:Int)==(s2.length:Int))) (I false) (J0 0)
def j4 (hd:B9 S) (k:Nat) (s1 s2:LT) (I:Bool->OS S):OS S:=aAm hd k I (fun ox=>xf hd k I s2 s1 k ox) s1 s2
def dt (hd:B9 S) (k:Nat) (sQ y:(Br Tm)) (I:Bool->OS S):OS S:=aa k (zz k sQ.f y.f) fun r1=>ab (r1) (aa k (j4 hd k sQ.c y.c) fun q=>I q) (I false)
def l2 (hd:B9 S) (k:Nat) (I:Bool->OS S) (s2 s1:LB) (q:Int->OS S) (ox:Int):OS S:=ab (decide ((ox:Int)<(s1.length:Int))) (oa (af s1 ox) fun x1=>oa (af s2 ox) fun x2=>aa k (dt hd k x1 x2) fun x=>ab (!x) (I false) (q (ot .i64 (ox+1)))) (I true)
def qd (hd:B9 S) (k:Nat) (I:Bool->OS S) (s2 s1:LB):Nat->Int->OS S
 |0=>fun _=> .none
 |m+1=>fun ox=>l2 hd k I s2 s1 (qd hd k I s2 s1 m) ox
def aAl (hd:B9 S) (k:Nat) (I:Bool->OS S) (J0:Int->OS S) (s1 s2:LB):OS S:=ab (!((s1.length:Int)==(s2.length:Int))) (I false) (J0 0)
def bz (hd:B9 S) (k:Nat) (s1 s2:LB) (I:Bool->OS S):OS S:=aAl hd k I (fun ox=>qd hd k I s2 s1 k ox) s1 s2
def a7 (hd:B9 S) (k:Nat) (I:Bool->OS S) (a b:Tm):OS S:=ab (a.k==b.k) (ab (a.n==b.n) (ab (a.name==b.name) (aa k (zz k a.r b.r) fun r1=>ab (r1) (aa k (j4 hd k a.c b.c) fun q=>ab (q) (aa k (bz hd k a.s b.s) fun x=>I x) (I false)) (I false)) (I false)) (I false)) (I false)
def KZ:Nat->Tm->Tm->(Bool->OS S)->OS S
 |0=>fun _ _ _=> .none
 |k+1=>fun a b I=>a7 (KZ k) k I a b
abbrev Mf (S:Type):=Tm->(List Df)->Int->(px (Int×Int) (Tm×Int)->OS S)->OS S
def Nh (hd:Mf S) (k:Nat) (t:Tm) (Ii:Int) (nX:List Df) (nU:Int) (I:px (Int×Int) (Tm×Bool×Int)->OS S):OS S:=oa (af t.c Ii) fun x1=>hd (ac x1) nX nU fun q=>px.elim q (fun q=>oa (af t.c Ii) fun x5=>KZ k (ac q.1) (ac x5) fun z=>ab (z) (I (.ok ((ac t),false,q.2))) (oa (aw 1099511627776 0 t.c.length) fun A=>oa (af t.c Ii) fun B=>oa (af t.c Ii) fun E=>I (.ok ((Tm.mk t.k t.n t.name t.r (t.c.set (zk Ii) (ac q.1)) t.s),true,q.2)))) (fun x=>I (.bD (x.1,x.2)))
def J0 (hd:Mf S) (k:Nat) (I:px (Int×Int) (Tm×Int)->OS S) (nX:List Df) (x:Int->Tm->OS S) (J:Int) (q:Tm):OS S:=aa k (pX k (ac q) nX J) fun A=>px.elim A (fun A=>ab (A.2.1) (x A.2.2 (ac A.1)) (aa k (aU k (ac q)) fun M=>ab (decide ((M:Int)>=0)) (aa k (Nh hd k (ac q) M nX A.2.2) fun B=>px.elim B (fun B=>ab (B.2.1) (x B.2.2 (ac B.1)) (ab (q.k==14) (oa (af q.c 0) fun W=>ab (W.k==23) (aa k (Nh hd k (ac q) 1 nX B.2.2) fun z=>px.elim z (fun z=>ab (z.2.1) (x z.2.2 (ac z.1)) (I (.ok ((ac q),z.2.2)))) (fun E=>I (.bD (E.1,E.2)))) (I (.ok ((ac q),B.2.2)))) (I (.ok ((ac q),B.2.2))))) (fun O=>I (.bD (O.1,O.2)))) (ab (q.k==14) (oa (af q.c 0) fun L=>ab (L.k==23) (aa k (Nh hd k (ac q) 1 nX A.2.2) fun r14=>px.elim r14 (fun r14=>ab (r14.2.1) (x r14.2.2 (ac r14.1)) (I (.ok ((ac q),r14.2.2)))) (fun F=>I (.bD (F.1,F.2)))) (I (.ok ((ac q),A.2.2)))) (I (.ok ((ac q),A.2.2)))))) (fun T=>I (.bD (T.1,T.2)))
def MQ (hd:Mf S) (k:Nat) (I:px (Int×Int) (Tm×Int)->OS S) (nX:List Df):Nat->Int->Tm->OS S
 |0=>fun _ _=> .none
 |m+1=>fun q x=>J0 hd k I nX (MQ hd k I nX m) q x
def q' (hd:Mf S) (k:Nat) (I:px (Int×Int) (Tm×Int)->OS S) (J0:Int->Tm->OS S) (t:Tm) (nX:List Df) (nU:Int):OS S:=J0 nU (ac t)
def EF:Nat->Tm->(List Df)->Int->(px (Int×Int) (Tm×Int)->OS S)->OS S
 |0=>fun _ _ _ _=> .none
 |k+1=>fun t nX nU I=>q' (EF k) k I (fun q x=>MQ (EF k) k I nX k q x) t nX nU
def h7 (k:Nat) (defs:List Df) (t:Tm) (fuel:Int) (I:Tm×Int×Int->OS S):OS S:=aa k (DS k (ac t)) fun r1=>ab (!(r1==0)) (I ((Tm.mk 0 0 pf [] [] []),0,r1)) (ab (decide ((fuel:Int)<0)) (I ((Tm.mk 0 0 pf [] [] []),0,2)) (ab (decide ((fuel:Int)>100000)) (I ((Tm.mk 0 0 pf [] [] []),0,2)) (dJ k (ac t) fun x=>EF k (ac x) defs fuel fun q=>px.elim q (fun q=>I ((ac q.1),q.2,0)) (fun z=>I ((Tm.mk 0 0 pf [] [] []),0,z.1)))))
def R6 (k:Nat) (sQ:Tm) (xx:Int) (I:px Int Tm->OS S):OS S:=ab (!(xx==0)) (I (.bD xx)) (I (.ok (ac sQ)))
def fD (k:Nat) (t:Tm) (nX:List Df) (nU:Int) (I:px (Int×Int) (Tm×Int)->OS S):OS S:=aa k (h7 k nX (ac t) nU) fun r1=>aa k (R6 k (ac r1.1) r1.2.2) fun q=>px.elim q (fun q=>I (.ok ((ac q),r1.2.1))) (fun x=>I (.bD (x,r1.2.1)))
def sb (k:Nat) (t:Tm) (c0:Int) (I:px Int Tm->OS S):OS S:=aa k (R6 k (ac t) c0) fun q=>px.elim q (fun q=>I (.ok (ac q))) (fun x=>I (.bD x))
def SK (k:Nat) (t:Tm) (I:px Int Tm->OS S):OS S:=ab (t.k==5) (oa (af t.c 0) fun x1=>I (.ok (ac x1))) (aa k (zb k (ac t) 1 0 0) fun A=>aa k (Nq k 0) fun x=>aa k (zc k 6 [(ac A.1),(Tm.mk x.1 x.2.1 x.2.2 [] [] [])]) fun q=>aa k (sb k (Tm.mk q.1 q.2.1 q.2.2.1 [] q.2.2.2 []) A.2) fun z=>px.elim z (fun z=>I (.ok (ac z))) (fun B=>I (.bD B)))
def MG (k:Nat) (t:Tm) (kind:Int) (I:Tm->OS S):OS S:=ab (t.k==8) (oa (af t.c (ot .i64 (kind-9))) fun x1=>I (ac x1)) (aa k (zc k kind [(ac t)]) fun q=>I (Tm.mk q.1 q.2.1 q.2.2.1 [] q.2.2.2 []))
def gw (k:Nat) (t p:Tm) (I:px Int Tm->OS S):OS S:=ab (t.k==12) (oa (af t.c 0) fun x1=>I (.ok (ac x1))) (oa (af p.c 0) fun x2=>aa k (JL k (ac x2) ([]:LC) 0) fun A=>oa (af p.c 0) fun x4=>aa k (JI k (ac x4) A.2) fun B=>aa k (zb k (ac t) 0 1 B.2) fun E=>aa k (zb k (ac A.1) 0 1 E.2) fun F=>aa k (zb k (ac B.1) 0 1 F.2) fun J=>aa k (tO k 13 [(Cl.mk 1 0)] [(ac E.1),(ac F.1),(ac J.1)]) fun x=>aa k (sb k (Tm.mk x.1 x.2.1 x.2.2.1 x.2.2.2.1 x.2.2.2.2 []) J.2) fun q=>px.elim q (fun q=>I (.ok (ac q))) (fun z=>I (.bD z)))
def x' (k:Nat) (I:LC×Int->OS S) (l:LB) (q:Int->(LC)->OS S) (zr:Int) (v4:LC):OS S:=ab (decide ((zr:Int)<(l.length:Int))) (oa (af l zr) fun x1=>aa k (y0 k v4 x1.f) fun x=>ab (!(x.2==0)) (I (([]:LC),x.2)) (q (ot .i64 (zr+1)) x.1)) (I (v4,0))
def mh (k:Nat) (I:LC×Int->OS S) (l:LB):Nat->Int->(LC)->OS S
 |0=>fun _ _=> .none
 |m+1=>fun zr v4=>x' k I l (mh k I l m) zr v4
def aNs (k:Nat) (I:LC×Int->OS S) (J0:Int->(LC)->OS S) (l:LB):OS S:=J0 0 []
def W3 (k:Nat) (l:LB) (I:LC×Int->OS S):OS S:=aNs k I (fun zr v4=>mh k I l k zr v4) l
def l8 (k:Nat) (sQ:LC) (xx:Int) (I:px Int (LC)->OS S):OS S:=ab (!(xx==0)) (I (.bD xx)) (I (.ok sQ))
def az (k:Nat) (sQ y:(Br Tm)) (I:Bool->OS S):OS S:=aa k (zz k sQ.f y.f) fun r1=>I r1
def bh (k:Nat) (I:Bool->OS S) (s2 s1:LB) (q:Int->OS S) (ox:Int):OS S:=ab (decide ((ox:Int)<(s1.length:Int))) (oa (af s1 ox) fun x1=>oa (af s2 ox) fun x2=>aa k (az k x1 x2) fun x=>ab (!x) (I false) (q (ot .i64 (ox+1)))) (I true)
def ka (k:Nat) (I:Bool->OS S) (s2 s1:LB):Nat->Int->OS S
 |0=>fun _=> .none
 |m+1=>fun ox=>bh k I s2 s1 (ka k I s2 s1 m) ox
def aNr (k:Nat) (I:Bool->OS S) (J0:Int->OS S) (s1 s2:LB):OS S:=ab (!((s1.length:Int)==(s2.length:Int))) (I false) (J0 0)
def b1 (k:Nat) (s1 s2:LB) (I:Bool->OS S):OS S:=aNr k I (fun ox=>ka k I s2 s1 k ox) s1 s2
def ad (k:Nat) (sQ:Cl) (xx:Int) (I:px Int Cl->OS S):OS S:=ab (!(xx==0)) (I (.bD xx)) (I (.ok sQ))
def FJ (k:Nat) (I:Tm×Int->OS S) (x8:Vd) (c:Cl) (r5 r6:LC) (oI:Int) (r9:List Int) (x:Tm->Int->OS S) (z:Tm->Int->OS S) (A:Tm) (v50:Int):OS S:=ab (decide ((v50:Int)<(r9.length:Int))) (oa (af r9 v50) fun E=>aa k (DF k E x8.row) fun B=>d7 k (ac A) 0 B.1 B.2 fun q=>ab (!(q.2==0)) (I ((Tm.mk 0 0 pf [] [] []),q.2)) (z (ac q.1) (ot .i64 (v50+1)))) (x (ac A) (ot .i64 (oI+1)))
def SI (k:Nat) (I:Tm×Int->OS S) (q:Tm->Int->OS S) (x8:Vd) (c:Cl) (r5 r6:LC) (oI:Int) (r9:List Int):Nat->Tm->Int->OS S
 |0=>fun _ _=> .none
 |m+1=>fun x v50=>FJ k I x8 c r5 r6 oI r9 q (SI k I q x8 c r5 r6 oI r9 m) x v50
def j9 (k:Nat) (I:Tm×Int->OS S) (c:Cl) (r5 r6:LC) (J1:Vd->Int->(List Int)->Tm->Int->OS S) (q:Tm->Int->OS S) (x:Tm) (oI:Int):OS S:=ab (decide ((oI:Int)<([(Vd.mk c.pos r5),(Vd.mk c.neg r6)].length:Int))) (oa (af [(Vd.mk c.pos r5),(Vd.mk c.neg r6)] oI) fun B=>oa (af [(Vd.mk c.pos r5),(Vd.mk c.neg r6)] oI) fun z=>vz z.set fun A=>J1 z oI A (ac x) 0) (I ((ac x),0))
def KO (k:Nat) (I:Tm×Int->OS S) (c:Cl) (r5 r6:LC):Nat->Tm->Int->OS S
 |0=>fun _ _=> .none
 |m+1=>fun x oI=>j9 k I c r5 r6 (fun z oI A q v50=>SI k I (KO k I c r5 r6 m) z c r5 r6 oI A k q v50) (KO k I c r5 r6 m) x oI
def aNq (k:Nat) (I:Tm×Int->OS S) (J0:(LC)->(LC)->Tm->Int->OS S) (t:Tm) (c:Cl):OS S:=aa k (DS k (ac t)) fun r1=>ab (!(r1==0)) (I ((Tm.mk 0 0 pf [] [] []),r1)) (aa k (tC k c) fun q=>ab (!q) (I ((Tm.mk 0 0 pf [] [] []),2)) (aa k (tB k c) fun x=>ab (x) (I ((Tm.mk 0 0 pf [] [] []),2)) (dJ k (ac t) fun z=>aa k (Nr k) fun A=>aa k (tK k) fun B=>J0 A B (ac z) 0)))
def rv (k:Nat) (t:Tm) (c:Cl) (I:Tm×Int->OS S):OS S:=aNq k I (fun q x z oI=>KO k I c q x k z oI) t c
def b' (k:Nat) (f g:LC) (I:LC×Int->OS S):OS S:=aa k (Z2 k [f,g]) fun r1=>ab (!(r1==0)) (I (([]:LC),r1)) (aa k (pe k f g) fun q=>I (q.1,q.2))
abbrev xY (S:Type):=Tm->Tm->(List Df)->Int->(px (Int×Int) (Bool×Int)->OS S)->OS S
def Km (hd:xY S) (k:Nat) (I:px (Int×Int) (Bool×Int)->OS S) (nX:List Df) (kind:Int) (f:LC) (ox:Int) (a b:LT) (z:Int->Int->OS S) (A:Int->Cl->Int->OS S) (qG:Int) (x:Cl) (H6:Int):OS S:=ab (decide ((H6:Int)<(a.length:Int))) (oa (af a H6) fun x6=>aa k (rv k (ac x6) x) fun O=>aa k (R6 k (ac O.1) O.2) fun F=>px.elim F (fun F=>oa (af b H6) fun J=>aa k (rv k (ac J) x) fun B=>aa k (R6 k (ac B.1) B.2) fun r14=>px.elim r14 (fun r14=>hd (ac F) (ac r14) nX qG fun q=>px.elim q (fun q=>ab (!q.1) (I (.ok (false,q.2))) (A q.2 x (ot .i64 (H6+1)))) (fun E=>I (.bD (E.1,E.2)))) (fun L=>I (.bD (L,qG)))) (fun M=>I (.bD (M,qG)))) (z qG (ot .i64 (ox+1)))
def RP (hd:xY S) (k:Nat) (I:px (Int×Int) (Bool×Int)->OS S) (q:Int->Int->OS S) (nX:List Df) (kind:Int) (f:LC) (ox:Int) (a b:LT):Nat->Int->Cl->Int->OS S
 |0=>fun _ _ _=> .none
 |m+1=>fun qG x H6=>Km hd k I nX kind f ox a b q (RP hd k I q nX kind f ox a b m) qG x H6
def pq (hd:xY S) (k:Nat) (I:px (Int×Int) (Bool×Int)->OS S) (nX:List Df) (kind:Int) (f:LC) (a b:LT) (J1:Int->Int->Cl->Int->OS S) (z:Int->Int->OS S) (q ox:Int):OS S:=ab (decide ((ox:Int)<(f.length:Int))) (oa (af f ox) fun x1=>ab (kind==15) (aa k (yD k x1 0 1) fun A=>aa k (ad k A.1 A.2) fun x=>px.elim x (fun x=>J1 ox q x 0) (fun B=>I (.bD (B,q)))) (J1 ox q x1 0)) (I (.ok (true,q)))
def NA (hd:xY S) (k:Nat) (I:px (Int×Int) (Bool×Int)->OS S) (nX:List Df) (kind:Int) (f:LC) (a b:LT):Nat->Int->Int->OS S
 |0=>fun _ _=> .none
 |m+1=>fun q ox=>pq hd k I nX kind f a b (fun ox qG x H6=>RP hd k I (NA hd k I nX kind f a b m) nX kind f ox a b k qG x H6) (NA hd k I nX kind f a b m) q ox
def aNp (hd:xY S) (k:Nat) (I:px (Int×Int) (Bool×Int)->OS S) (J0:Int->Int->OS S) (kind:Int) (f:LC) (a b:LT) (nX:List Df) (nU:Int):OS S:=J0 nU 0
def G0 (hd:xY S) (k:Nat) (kind:Int) (f:LC) (a b:LT) (nX:List Df) (nU:Int) (I:px (Int×Int) (Bool×Int)->OS S):OS S:=aNp hd k I (fun q ox=>NA hd k I nX kind f a b k q ox) kind f a b nX nU
def w3 (hd:xY S) (k:Nat) (I:px (Int×Int) (Bool×Int)->OS S) (nX:List Df) (kind:Int) (b a:LB) (x:Int->Int->OS S) (z q:Int):OS S:=ab (decide ((q:Int)<(a.length:Int))) (oa (af a q) fun A=>oa (af b q) fun E=>aa k (G0 hd k kind A.f A.c E.c nX z) fun r14=>px.elim r14 (fun r14=>ab (!r14.1) (I (.ok (false,r14.2))) (x r14.2 (ot .i64 (q+1)))) (fun B=>I (.bD (B.1,B.2)))) (I (.ok (true,z)))
def k8 (hd:xY S) (k:Nat) (I:px (Int×Int) (Bool×Int)->OS S) (nX:List Df) (kind:Int) (b a:LB):Nat->Int->Int->OS S
 |0=>fun _ _=> .none
 |m+1=>fun q x=>w3 hd k I nX kind b a (k8 hd k I nX kind b a m) q x
def L' (hd:xY S) (k:Nat) (I:px (Int×Int) (Bool×Int)->OS S) (nX:List Df) (A:(Br Tm)) (kind:Int) (b a:LB) (v55:Int) (B:Int->Int->OS S) (E:Int->Int->OS S) (ta x:Int):OS S:=ab (decide ((x:Int)<(b.length:Int))) (oa (af b x) fun F=>aa k (b' k A.f F.f) fun J=>aa k (l8 k J.1 J.2) fun z=>px.elim z (fun z=>aa k (G0 hd k kind z A.c F.c nX ta) fun q=>px.elim q (fun q=>ab (!q.1) (I (.ok (false,q.2))) (E q.2 (ot .i64 (x+1)))) (fun L=>I (.bD (L.1,L.2)))) (fun M=>I (.bD (M,ta)))) (B ta (ot .i64 (v55+1)))
def SJ (hd:xY S) (k:Nat) (I:px (Int×Int) (Bool×Int)->OS S) (q:Int->Int->OS S) (nX:List Df) (x:(Br Tm)) (kind:Int) (b a:LB) (v55:Int):Nat->Int->Int->OS S
 |0=>fun _ _=> .none
 |m+1=>fun ta z=>L' hd k I nX x kind b a v55 q (SJ hd k I q nX x kind b a v55 m) ta z
def ml (hd:xY S) (k:Nat) (I:px (Int×Int) (Bool×Int)->OS S) (nX:List Df) (kind:Int) (b a:LB) (J2:(Br Tm)->Int->Int->Int->OS S) (x:Int->Int->OS S) (qG v55:Int):OS S:=ab (decide ((v55:Int)<(a.length:Int))) (oa (af a v55) fun q=>J2 q v55 qG 0) (I (.ok (true,qG)))
def RQ (hd:xY S) (k:Nat) (I:px (Int×Int) (Bool×Int)->OS S) (nX:List Df) (kind:Int) (b a:LB):Nat->Int->Int->OS S
 |0=>fun _ _=> .none
 |m+1=>fun qG v55=>ml hd k I nX kind b a (fun q v55 ta x=>SJ hd k I (RQ hd k I nX kind b a m) nX q kind b a v55 k ta x) (RQ hd k I nX kind b a m) qG v55
def aNo (hd:xY S) (k:Nat) (I:px (Int×Int) (Bool×Int)->OS S) (J0:Int->Int->OS S) (J1:Int->Int->OS S) (kind:Int) (a b:LB) (nX:List Df) (nU:Int):OS S:=aa k (W3 k a) fun r1=>aa k (l8 k r1.1 r1.2) fun q=>px.elim q (fun q=>aa k (W3 k b) fun A=>aa k (l8 k A.1 A.2) fun x=>px.elim x (fun x=>aa k (zz k q x) fun B=>ab (!B) (I (.ok (false,nU))) (aa k (b1 k a b) fun z=>ab (z) (J0 nU 0) (J1 nU 0))) (fun E=>I (.bD (E,nU)))) (fun F=>I (.bD (F,nU)))
def k7 (hd:xY S) (k:Nat) (kind:Int) (a b:LB) (nX:List Df) (nU:Int) (I:px (Int×Int) (Bool×Int)->OS S):OS S:=aNo hd k I (fun q x=>k8 hd k I nX kind b a k q x) (fun qG v55=>RQ hd k I nX kind b a k qG v55) kind a b nX nU
def hg (hd:xY S) (k:Nat) (I:px (Int×Int) (Bool×Int)->OS S) (nX:List Df) (r2 r5:Tm×Int) (A:Int->Int->OS S) (B q:Int):OS S:=ab (decide ((q:Int)<(r2.1.c.length:Int))) (oa (af r2.1.c q) fun J=>oa (af r5.1.c q) fun L=>hd (ac J) (ac L) nX B fun x=>px.elim x (fun x=>ab (!x.1) (I (.ok (false,x.2))) (A x.2 (ot .i64 (q+1)))) (fun E=>I (.bD (E.1,E.2)))) (aa k (k7 hd k r2.1.k r2.1.s r5.1.s nX B) fun z=>px.elim z (fun z=>I (.ok (z.1,z.2))) (fun F=>I (.bD (F.1,F.2))))
def jq (hd:xY S) (k:Nat) (I:px (Int×Int) (Bool×Int)->OS S) (nX:List Df) (r2 r5:Tm×Int):Nat->Int->Int->OS S
 |0=>fun _ _=> .none
 |m+1=>fun x q=>hg hd k I nX r2 r5 (jq hd k I nX r2 r5 m) x q
def kx (hd:xY S) (k:Nat) (I:px (Int×Int) (Bool×Int)->OS S) (J0:(Tm×Int)->(Tm×Int)->Int->Int->OS S) (a b:Tm) (nX:List Df) (nU:Int):OS S:=ab (nU==0) (I (.bD (220,nU))) (aa k (fD k (ac a) nX (ot .i64 (nU-1))) fun x=>px.elim x (fun x=>aa k (fD k (ac b) nX x.2) fun q=>px.elim q (fun q=>ab (x.1.k==5) (aa k (SK k (ac x.1)) fun r8=>px.elim r8 (fun r8=>aa k (SK k (ac q.1)) fun O=>px.elim O (fun O=>hd (ac r8) (ac O) nX q.2 fun r14=>px.elim r14 (fun r14=>I (.ok (r14.1,r14.2))) (fun ao=>I (.bD (ao.1,ao.2)))) (fun bn=>I (.bD (bn,q.2)))) (fun e9=>I (.bD (e9,q.2)))) (ab (q.1.k==5) (aa k (SK k (ac x.1)) fun T=>px.elim T (fun T=>aa k (SK k (ac q.1)) fun W=>px.elim W (fun W=>hd (ac T) (ac W) nX q.2 fun B=>px.elim B (fun B=>I (.ok (B.1,B.2))) (fun ax=>I (.bD (ax.1,ax.2)))) (fun bt=>I (.bD (bt,q.2)))) (fun bz=>I (.bD (bz,q.2)))) (ab (x.1.k==8) (aa k (MG k (ac x.1) 9) fun b0=>aa k (MG k (ac q.1) 9) fun b1=>hd (ac b0) (ac b1) nX q.2 fun z=>px.elim z (fun z=>ab (z.1) (aa k (MG k (ac x.1) 10) fun b2=>aa k (MG k (ac q.1) 10) fun b3=>hd (ac b2) (ac b3) nX z.2 fun E=>px.elim E (fun E=>I (.ok (E.1,E.2))) (fun az=>I (.bD (az.1,az.2)))) (I (.ok (false,z.2)))) (fun a6=>I (.bD (a6.1,a6.2)))) (ab (q.1.k==8) (aa k (MG k (ac x.1) 9) fun b4=>aa k (MG k (ac q.1) 9) fun b5=>hd (ac b4) (ac b5) nX q.2 fun A=>px.elim A (fun A=>ab (A.1) (aa k (MG k (ac x.1) 10) fun b6=>aa k (MG k (ac q.1) 10) fun b7=>hd (ac b6) (ac b7) nX A.2 fun F=>px.elim F (fun F=>I (.ok (F.1,F.2))) (fun a7=>I (.bD (a7.1,a7.2)))) (I (.ok (false,A.2)))) (fun a8=>I (.bD (a8.1,a8.2)))) (ab (x.1.k==12) (oa (af x.1.c 0) fun ch=>aa k (gw k (ac q.1) (ac x.1)) fun Y=>px.elim Y (fun Y=>hd (ac ch) (ac Y) nX q.2 fun J=>px.elim J (fun J=>I (.ok (J.1,J.2))) (fun bc=>I (.bD (bc.1,bc.2)))) (fun cu=>I (.bD (cu,q.2)))) (ab (q.1.k==12) (aa k (gw k (ac x.1) (ac q.1)) fun ad=>px.elim ad (fun ad=>oa (af q.1.c 0) fun cx=>hd (ac ad) (ac cx) nX q.2 fun L=>px.elim L (fun L=>I (.ok (L.1,L.2))) (fun bf=>I (.bD (bf.1,bf.2)))) (fun cy=>oa (af q.1.c 0) fun dh=>I (.bD (cy,q.2)))) (ab (!(x.1.k==q.1.k)) (I (.ok (false,q.2))) (ab (!(x.1.n==q.1.n)) (I (.ok (false,q.2))) (ab (!(x.1.name==q.1.name)) (I (.ok (false,q.2))) (aa k (zz k x.1.r q.1.r) fun c5=>ab (!c5) (I (.ok (false,q.2))) (ab (x.1.k==13) (oa (af x.1.c 0) fun c9=>oa (af q.1.c 0) fun dd=>hd (ac c9) (ac dd) nX q.2 fun M=>px.elim M (fun M=>I (.ok (M.1,M.2))) (fun bh=>I (.bD (bh.1,bh.2)))) (J0 x q q.2 0)))))))))))) (fun e6=>I (.bD (e6.1,e6.2)))) (fun e3=>I (.bD (e3.1,e3.2))))
def Bx:Nat->Tm->Tm->(List Df)->Int->(px (Int×Int) (Bool×Int)->OS S)->OS S
 |0=>fun _ _ _ _ _=> .none
 |k+1=>fun a b nX nU I=>kx (Bx k) k I (fun z A x q=>jq (Bx k) k I nX z A k x q) a b nX nU
def iF (k:Nat) (I:Bool×Int×Int->OS S) (a b:Tm) (defs:List Df) (fuel:Int) (x:Int->OS S) (q:Int):OS S:=ab (decide ((q:Int)<([(ac a),(ac b)].length:Int))) (oa (af [(ac a),(ac b)] q) fun x1=>oa (af [(ac a),(ac b)] q) fun x2=>aa k (DS k (ac x2)) fun A=>ab (!(A==0)) (I (false,0,A)) (x (ot .i64 (q+1)))) (ab (decide ((fuel:Int)<0)) (I (false,0,2)) (ab (decide ((fuel:Int)>100000)) (I (false,0,2)) (Bx k (ac a) (ac b) defs fuel fun z=>px.elim z (fun z=>I (z.1,z.2,0)) (fun B=>I (false,0,B.1)))))
def ME (k:Nat) (I:Bool×Int×Int->OS S) (a b:Tm) (defs:List Df) (fuel:Int):Nat->Int->OS S
 |0=>fun _=> .none
 |m+1=>fun q=>iF k I a b defs fuel (ME k I a b defs fuel m) q
def aNn (k:Nat) (I:Bool×Int×Int->OS S) (J0:Int->OS S) (defs:List Df) (a b:Tm) (fuel:Int):OS S:=J0 0
def SL (k:Nat) (defs:List Df) (a b:Tm) (fuel:Int) (I:Bool×Int×Int->OS S):OS S:=aNn k I (fun q=>ME k I a b defs fuel k q) defs a b fuel
def o2 (k:Nat) (I:Bool->OS S):OS S:=aa k (pg k 1 ([]:LT)) fun r1=>aa k (pg k 6 [(Tm.mk 1 1 pf [] [] []),(Tm.mk r1.1 r1.2.1 r1.2.2.1 [] r1.2.2.2 [])]) fun q=>aa k (pg k 5 [(Tm.mk q.1 q.2.1 q.2.2.1 [] q.2.2.2 [])]) fun x=>aa k (SL k ([]:List Df) (Tm.mk x.1 x.2.1 x.2.2.1 [] x.2.2.2 []) (Tm.mk r1.1 r1.2.1 r1.2.2.1 [] r1.2.2.2 []) 9) fun B=>aa k (pg k 3 ([]:LT)) fun z=>aa k (pg k 19 ([]:LT)) fun A=>aa k (SL k ([]:List Df) (Tm.mk z.1 z.2.1 z.2.2.1 [] z.2.2.2 []) (Tm.mk A.1 A.2.1 A.2.2.1 [] A.2.2.2 []) 9) fun E=>ab (B.1) (ab (B.2.2==0) (ab (!E.1) (I (E.2.2==0)) (I false)) (I false)) (I false)
abbrev gY (S:Type):=Tm->Int->(Int->OS S)->OS S
def xL (hd:gY S) (k:Nat) (I:Int->OS S) (t:Tm) (ov i7:Int) (x:Int->Int->OS S) (z:Int->Int->OS S) (q A:Int):OS S:=oa (af t.s i7) fun x5=>ab (decide ((A:Int)<(x5.c.length:Int))) (ab (decide ((q:Int)<=ov)) (oa (af t.s i7) fun x6=>oa (af x6.c A) fun B=>hd (ac B) (ot .i64 (ov-q)) fun E=>z (ot .i64 (q+E)) (ot .i64 (A+1))) (x q (ot .i64 (i7+1)))) (x q (ot .i64 (i7+1)))
def kA (hd:gY S) (k:Nat) (I:Int->OS S) (q:Int->Int->OS S) (t:Tm) (ov i7:Int):Nat->Int->Int->OS S
 |0=>fun _ _=> .none
 |m+1=>fun x z=>xL hd k I t ov i7 q (kA hd k I q t ov i7 m) x z
def sS (hd:gY S) (k:Nat) (I:Int->OS S) (t:Tm) (ov:Int) (J2:Int->Int->Int->OS S) (x:Int->Int->OS S) (q i7:Int):OS S:=ab (decide ((i7:Int)<(t.s.length:Int))) (ab (decide ((q:Int)<=ov)) (oa (af t.s i7) fun x3=>ab (decide (((x3.f.length:Int):Int)>ov)) (I (ot .i64 (ov+1))) (oa (af t.s i7) fun x4=>J2 i7 (ot .i64 ((ot .i64 (q+1))+(x4.f.length:Int))) 0)) (I q)) (I q)
def jl (hd:gY S) (k:Nat) (I:Int->OS S) (t:Tm) (ov:Int):Nat->Int->Int->OS S
 |0=>fun _ _=> .none
 |m+1=>fun x i7=>sS hd k I t ov (fun i7 q z=>kA hd k I (jl hd k I t ov m) t ov i7 k q z) (jl hd k I t ov m) x i7
def ja (hd:gY S) (k:Nat) (I:Int->OS S) (t:Tm) (ov:Int) (J1:Int->Int->OS S) (q:Int->Int->OS S) (v5 i6:Int):OS S:=ab (decide ((i6:Int)<(t.c.length:Int))) (ab (decide ((v5:Int)<=ov)) (oa (af t.c i6) fun x1=>hd (ac x1) (ot .i64 (ov-v5)) fun x=>q (ot .i64 (v5+x)) (ot .i64 (i6+1))) (J1 v5 0)) (J1 v5 0)
def nQ (hd:gY S) (k:Nat) (I:Int->OS S) (t:Tm) (ov:Int):Nat->Int->Int->OS S
 |0=>fun _ _=> .none
 |m+1=>fun v5 i6=>ja hd k I t ov (fun q i7=>jl hd k I t ov k q i7) (nQ hd k I t ov m) v5 i6
def Io (hd:gY S) (k:Nat) (I:Int->OS S) (J0:Int->Int->OS S) (t:Tm) (ov:Int):OS S:=ab (decide (((t.r.length:Int):Int)>ov)) (I (ot .i64 (ov+1))) (ab (decide (((t.name.size:Int):Int)>ov)) (I (ot .i64 (ov+1))) (J0 (ot .i64 ((ot .i64 (1+(t.r.length:Int)))+(t.name.size:Int))) 0))
def gE:Nat->Tm->Int->(Int->OS S)->OS S
 |0=>fun _ _ _=> .none
 |k+1=>fun t ov I=>Io (gE k) k I (fun v5 i6=>nQ (gE k) k I t ov k v5 i6) t ov
def n2 (k:Nat) (t:Tm) (I:Bool->OS S):OS S:=gE k (ac t) 60 fun r1=>I (decide ((r1:Int)>60))
def HV (k:Nat) (t:Tm) (I:Bool->OS S):OS S:=gE k (ac t) 100 fun r1=>I (decide ((r1:Int)>100))
def IB (k:Nat) (I:Bool->OS S) (l:List Df) (q:Int->OS S) (qm:Int):OS S:=ab (decide ((qm:Int)<(l.length:Int))) (oa (af l qm) fun x1=>aa k (HV k (ac x1.body)) fun x=>ab (x) (I true) (ab (decide (((x1.name.size:Int):Int)>50)) (I true) (q (ot .i64 (qm+1))))) (I false)
def Sl (k:Nat) (I:Bool->OS S) (l:List Df):Nat->Int->OS S
 |0=>fun _=> .none
 |m+1=>fun qm=>IB k I l (Sl k I l m) qm
def aAk (k:Nat) (I:Bool->OS S) (J0:Int->OS S) (l:List Df):OS S:=ab (decide (((l.length:Int):Int)>8)) (I true) (J0 0)
def b0 (k:Nat) (l:List Df) (I:Bool->OS S):OS S:=aAk k I (fun qm=>Sl k I l k qm) l
def w2 (k:Nat) (I:List Df->OS S) (l:List Df) (x:(List Df)->Int->OS S) (q:List Df) (z:Int):OS S:=ab (decide ((z:Int)<(l.length:Int))) (oa (af l z) fun x1=>oa (aw 1099511627776 q.length [(lo x1)].length) fun x2=>x (q++[(lo x1)]) (ot .i64 (z+1))) (I q)
def kv (k:Nat) (I:List Df->OS S) (l:List Df):Nat->(List Df)->Int->OS S
 |0=>fun _ _=> .none
 |m+1=>fun q x=>w2 k I l (kv k I l m) q x
def h3 (k:Nat) (I:List Df->OS S) (J0:(List Df)->Int->OS S) (l:List Df):OS S:=J0 ([]:List Df) 0
def ek (k:Nat) (l:List Df) (I:List Df->OS S):OS S:=h3 k I (fun q x=>kv k I l k q x) l
def Bi (k:Nat) (qu:Int) (I:Int->OS S):OS S:=ab (decide ((qu:Int)<0)) (I qu) (ab (decide ((qu:Int)>100000)) (I qu) (I (Int.tmod qu 60)))
def hr (k:Nat) (defs:List Df) (a b:Tm) (fuel more:Int) (I:Bool->OS S):OS S:=aa k (o2 k) fun r1=>ab (!r1) (I false) (aa k (n2 k (ac a)) fun B=>ab (B) (I true) (aa k (n2 k (ac b)) fun E=>ab (E) (I true) (aa k (b0 k defs) fun F=>ab (F) (I true) (ab (decide ((fuel:Int)<0)) (I true) (ab (decide ((fuel:Int)>100000)) (I true) (aa k (ek k defs) fun z=>aa k (Bi k fuel) fun A=>aa k (SL k z (ac a) (ac b) A) fun q=>ab (q.2.2==220) (I true) (aa k (SL k z (ac a) (ac b) (ot .i64 (A+(ot .i64 (Int.tmod (ot .u64 more) 10))))) fun x=>ab (q.2.2==x.2.2) (ab (q.1==x.1) (ab (!(q.2.2==0)) (I true) (I (x.2.1==(ot .i64 (q.2.1+(ot .i64 (Int.tmod (ot .u64 more) 10))))))) (I false)) (I false))))))))
end
end
section
open Go PI
abbrev xB:Nat:=16777215
theorem N4 {n:Nat} (h:n<24):2^n<4294967296:=Nat.lt_of_lt_of_le (Nat.pow_lt_pow_right (by decide) h) (by decide)
theorem Dt (n:Nat):(2:Int)^n=((2^n:Nat):Int):=by simp
theorem Es (m n:Nat):Int.fdiv (m:Int) ((2:Int)^n)=((m/2^n:Nat):Int):=by
 grind
variable {S:Type} {k:Nat}
theorem BM (hk:Fu k) (i:Int) (I:Bool->OS S):nd k i I=I (decide (0<=i/\i<24)):=by
 grind [nd,aY]
theorem akm (hk:Fu k) {m:Nat} (x:m<4294967296) (I:Bool->OS S):pm k (m:Int) I=I (decide (m<16777216)):=by
 simp only [pm]
 rw [show (16777215:Int)=((16777215:Nat):Int) from rfl,C_ x (by decide)]
 congr 1
 rw [Bool.eq_iff_iff]
 simp only [beq_iff_eq,decide_eq_true_eq]
 have key:dL m 16777215=0↔m<16777216:=by
  constructor
  ·intro h
   apply Nat.lt_pow_two_of_testBit (n:=24)
   intro i q
   have h2:=mm m 16777215 i
   rw [h,Nat.zero_testBit] at h2
   have:(16777215:Nat).testBit i=false:=Nat.testBit_lt_two_pow (Nat.lt_of_lt_of_le (by decide:16777215<2^24) (Nat.pow_le_pow_right (by decide) q))
   grind
  ·intro h
   apply Nat.eq_of_testBit_eq
   intro i
   rw [mm,Nat.zero_testBit]
   by_cases q:i<24
   ·have:(16777215:Nat).testBit i=true:=by
     rw [show (16777215:Nat)=2^24-1 from rfl,Nat.testBit_two_pow_sub_one];grind
    grind
   ·have h2:(2:Nat)^24<=2^i:=Nat.pow_le_pow_right (by decide) (by omega)
    grind [Nat.testBit_lt_two_pow]
 omega
theorem akk (hk:Fu k) {m:Nat} (q:m<4294967296) (i:Int) (I:Bool->OS S):Mh k (m:Int) i I=I (decide (0<=i/\i<24)&&m.testBit i.toNat):=by
 simp only [Mh,BM hk,ag hk]
 by_cases h:0<=i/\i<24
 ·obtain ⟨n,rfl⟩: ∃n:Nat,i=n:=⟨i.toNat,by omega⟩
  have hn:n<24:=by omega
  rw [decide_eq_true h,ae,Bool.true_and,iR n (by omega),fN _ (by omega)]
  congr 1
  rw [Ej,Nat.min_eq_left (by omega),Es,show (1:Int)=((1:Nat):Int) from rfl,lj (Nat.lt_of_le_of_lt (Nat.div_le_self _ _) q) (by decide)]
  grind
 grind [n3]
theorem akn (hk:Fu k) {m:Nat} (q:m<4294967296) (i:Int) (I:Int->OS S):i_ k (m:Int) i I=I (if 0<=i/\i<24 then (((m&&&xB)|||2^i.toNat:Nat):Int) else ((m&&&xB:Nat):Int)):=by
 simp only [i_,BM hk,ag hk]
 have hand:bj .and .u32 (m:Int) 16777215=((m&&&xB:Nat):Int):=lj q (by decide:(16777215:Nat)<4294967296)
 have x:m&&&xB<4294967296:=q1 (n:=32) q
 rw [hand]
 by_cases h:0<=i/\i<24
 ·obtain ⟨n,rfl⟩: ∃n:Nat,i=n:=⟨i.toNat,by omega⟩
  grind [iR,n3,fN,Ej,ld,N4,wK]
 ·rw [decide_eq_false h,if_neg h];rfl
theorem ako (hk:Fu k) {m:Nat} (q:m<4294967296) (i:Int) (I:Int->OS S):jX k (m:Int) i I=I (if 0<=i/\i<24 then ((dL (m&&&xB) (2^i.toNat):Nat):Int) else ((m&&&xB:Nat):Int)):=by
 simp only [jX,BM hk,ag hk]
 have hand:bj .and .u32 (m:Int) 16777215=((m&&&xB:Nat):Int):=lj q (by decide:(16777215:Nat)<4294967296)
 have x:m&&&xB<4294967296:=q1 (n:=32) q
 rw [hand]
 by_cases h:0<=i/\i<24
 ·grind [iR,n3,fN,Ej,ld,N4,C_]
 ·rw [decide_eq_false h,if_neg h];rfl
theorem R5 (hk:Fu k) (n:Nat) (hn:n<18446744073709551616) (I:Int->OS S):pn k (n:Int) I=I ((2^min n 24-1:Nat):Int):=by
 simp only [pn]
 have e:(if (24:Int)<(n:Int) then (24:Int) else (n:Int))=((min n 24:Nat):Int):=by
  omega
 rw [e,iR _ (by omega),fN _ (by omega),Ej]
 congr 1
 generalize z:min n 24=q
 have x:q<=24:=by omega
 rw [Nat.min_eq_left (by omega),Int.one_mul,Dt]
 have h1:2^q<=2^24:=Nat.pow_le_pow_right (by decide) x
 grind [iR,ld]
def gO (m n:Nat):Nat:=(m&&&xB)&&&(2^min n 24-1)
def dl (m n:Nat):Nat:=dL (m&&&xB) (2^min n 24-1)
def LR (m n b:Nat):Nat×Nat:=
 if dl m n=0 then (gO m n,0) else if 24<=b then (0,10) else if dl m n*2^b>16777215 then (0,10) else (gO m n|||(dl m n*2^b),0)
theorem akl (hk:Fu k) {m:Nat} (J:m<4294967296) (n b:Nat) (hn:n<9223372036854775808) (hb:b<9223372036854775808) (I:Int×Int->OS S):
  lx k (m:Int) (n:Int) (b:Int) I=I (((LR m n b).1:Int),((LR m n b).2:Int)):=by
 have hand:bj .and .u32 (m:Int) 16777215=((m&&&xB:Nat):Int):=lj J (by decide:(16777215:Nat)<4294967296)
 have A:m&&&xB<16777216:=Nat.lt_of_le_of_lt Nat.and_le_right (by decide)
 have x:2^min n 24-1<4294967296:=by
  have:2^min n 24<=2^24:=Nat.pow_le_pow_right (by decide) (by omega)
  omega
 have B:dl m n<16777216:=vq (n:=24) A
 have z:bj .and .u32 ((m&&&xB:Nat):Int) ((2^min n 24-1:Nat):Int)=((gO m n:Nat):Int):=lj (by omega) x
 have q:bj .andNot .u32 ((m&&&xB:Nat):Int) ((2^min n 24-1:Nat):Int)=((dl m n:Nat):Int):=C_ (by omega) x
 simp only [lx]
 rw [aY,aY,if_neg (by omega),if_neg (by omega)]
 simp only [R5 hk n (by omega),ag hk,hand,z,q]
 rw [iR _ (by omega)]
 unfold LR
 by_cases L:dl m n=0
 ·grind [ae]
 ·rw [if_neg L]
  have E:(((dl m n:Nat):Int)==0)=false:=by
   grind
  simp only [E,n3,aY]
  by_cases F:24<=b
  ·grind
  ·rw [if_neg (by omega),if_neg F,iR b (by omega),fN _ (by omega),Ej,Nat.min_eq_left (by omega),Dt]
   have hp:2^b<=2^23:=Nat.pow_le_pow_right (by decide) (by omega)
   have M:(2:Nat)^23=8388608:=by decide
   have hmul:dl m n*2^b<18446744073709551616:=by
    have:=Nat.mul_le_mul (Nat.le_of_lt B) hp
    omega
   have O:((dl m n:Nat):Int)*((2^b:Nat):Int)=((dl m n*2^b:Nat):Int):=by simp
   rw [O,iR _ hmul]
   by_cases T:dl m n*2^b>16777215
   ·grind
   ·rw [if_neg (by omega),if_neg T]
    rw [ld _ (by omega),fN _ (by omega),wK (by grind [gO,Nat.and_le_left]) (by omega)]
    rfl
variable {S:Type} {k:Nat}
def RI (l:List Nat):Nat:=(l.map (2^ ·)).sum
theorem Zr {x a:Nat} (h:x.testBit a=false):x+2^a=x|||2^a:=by
 have h1:x=2^(a+1)*(x/2^(a+1))+x%2^(a+1):=(Nat.div_add_mod _ _).symm
 have z:x%2^(a+1)<2^a:=by
  have hb:(x%2^(a+1)).testBit a=false:=by grind
  grind [Nat.lt_pow_two_of_testBit,Nat.testBit_lt_two_pow]
 generalize x/2^(a+1)=q at h1
 generalize x%2^(a+1)=r at h1 z
 have hp:(2:Nat)^(a+1)=2^a*2:=Nat.pow_succ 2 a
 have A:2^a+r=2^a|||r:=by
  have:=Nat.two_pow_add_eq_or_of_lt z 1
  grind
 have B:x=2^(a+1)*q|||r:=by grind [Nat.two_pow_add_eq_or_of_lt]
 grind [Nat.two_pow_add_eq_or_of_lt]
theorem oG: ∀ (l:List Nat),l.Nodup-> ∀j,(RI l).testBit j=decide (j∈l):=by
 intro l
 induction l with
 |nil=>grind [RI]
 |cons a l x=>
  intro hn j
  have q:=List.nodup_cons.1 hn
  have ha:(RI l).testBit a=false:=by grind
  have e:RI (a::l)=RI l|||2^a:=by
   grind [Zr,RI]
  grind
def bW (m:Nat):List Nat:=(BF 24).filter m.testBit
theorem oY (m:Nat):(bW m).Nodup:=List.nodup_range.filter _
theorem sU {m j:Nat}:j∈bW m↔j<24/\m.testBit j=true:=by simp [bW]
theorem gu (m:Nat):(bW m).length<=24:=by
 grind [bW]
theorem g8 (j:Nat):xB.testBit j=decide (j<24):=by
 rw [show xB=2^24-1 from rfl,Nat.testBit_two_pow_sub_one]
def ints (l:List Nat):List Int:=l.map Int.ofNat
theorem amb (l:List Nat):(ints l).length=l.length:=by simp [ints]
theorem uB {α:Type} (p r:List α) (x:α):af (p++x::r) (p.length:Int)=some x:=by simp [af]
theorem oZ {m:Nat} (h:m<16777216) {j:Nat} (hj:m.testBit j=true):j<24:=by
 apply Classical.byContradiction
 intro hn
 have:m<2^j:=Nat.lt_of_lt_of_le h (Nat.pow_le_pow_right (n:=2) (i:=24) (j:=j) (by decide) (by omega))
 grind [Nat.testBit_lt_two_pow]
theorem LN (m:Nat):m<16777216↔ ∀j,m.testBit j=true->j<24:=by
 constructor
 ·intro h j hj;exact oZ h hj
 ·intro h
  apply Nat.lt_pow_two_of_testBit (n:=24)
  grind
def eU (n b x:Nat):Nat:=if x<n then x else x+b
theorem Dl (m n j:Nat):(gO m n).testBit j=(m.testBit j&&decide (j<n/\j<24)):=by
 grind [gO,g8]
theorem Js (m n j:Nat):(dl m n).testBit j=(m.testBit j&&decide (n<=j/\j<24)):=by
 grind [dl,mm,g8]
theorem Fg (m n b:Nat):LR m n b=if (∃x∈bW m,n<=x/\24<=x+b) then (0,10) else (RI ((bW m).map (eU n b)),0):=by
 have A:((bW m).map (eU n b)).Nodup:=by
  grind [eU,oY]
 have E: ∀j,(RI ((bW m).map (eU n b))).testBit j=((gO m n).testBit j||(decide (b<=j)&&(dl m n).testBit (j-b))):=by
  intro j
  rw [oG _ A,Dl,Js,Bool.eq_iff_iff]
  simp only [decide_eq_true_eq,xl,sU,Bool.or_eq_true,qk]
  grind [eU]
 have q: ∀j,(dl m n).testBit j=true↔(j∈bW m/\n<=j):=by
  grind [Js,sU]
 unfold LR
 by_cases B:dl m n=0
 ·rw [if_pos B,if_neg]
  ·congr 1
   apply Nat.eq_of_testBit_eq
   grind
  grind
 ·rw [if_neg B]
  have hex: ∃j,(dl m n).testBit j=true:=by
   apply Classical.byContradiction
   intro I
   apply B
   apply Nat.eq_of_testBit_eq
   grind
  have hmul: ∀j,(dl m n*2^b).testBit j=(decide (b<=j)&&(dl m n).testBit (j-b)):=by
   grind
  by_cases z:24<=b
  ·rw [if_pos z]
   obtain ⟨j,hj⟩:=hex
   have:=(q j).1 hj
   rw [if_pos ⟨j,this.1,this.2,by omega⟩]
  ·rw [if_neg z]
   have J:=LN (dl m n*2^b)
   by_cases F:dl m n*2^b>16777215
   ·rw [if_pos F,if_pos]
    grind
   ·rw [if_neg F,if_neg]
    ·congr 1
     apply Nat.eq_of_testBit_eq
     grind
    ·rintro ⟨x,h1,h2,L⟩
     have M:(dl m n*2^b).testBit (x+b)=true:=by
      simp_all
     grind
def j7 (m:Nat) (i:Int):Nat:=if 0<=i/\i<24 then gO m i.toNat|||((m&&&xB)/2^(i.toNat+1)*2^i.toNat) else m&&&xB
theorem akj (hk:Fu k) {m:Nat} (x:m<4294967296) (i:Int) (I:Int->OS S):pk k (m:Int) i I=I ((j7 m i:Nat):Int):=by
 simp only [pk,BM hk,ag hk]
 have hand:bj .and .u32 (m:Int) 16777215=((m&&&xB:Nat):Int):=lj x (by decide:(16777215:Nat)<4294967296)
 have z:m&&&xB<16777216:=Nat.lt_of_le_of_lt Nat.and_le_right (by decide)
 rw [hand]
 unfold j7
 by_cases h:0<=i/\i<24
 ·obtain ⟨n,rfl⟩: ∃n:Nat,i=n:=⟨i.toNat,by omega⟩
  have hn:n<24:=by omega
  rw [decide_eq_true h,if_pos h,va,n3,R5 hk n (by omega)]
  have A:(n:Int)+1=((n+1:Nat):Int):=by simp
  rw [alX (by omega) (by omega),A,iR _ (by omega),iR _ (by omega),fN _ (by omega),fN _ (by omega)]
  rw [Ej,Ej,Nat.min_eq_left (show n+1<=32 by omega),Nat.min_eq_left (show n<=32 by omega),Es,Dt]
  have hb:2^min n 24-1<4294967296:=by
   have:2^min n 24<=2^24:=Nat.pow_le_pow_right (by decide) (by omega)
   omega
  have E:(m&&&xB)/2^(n+1)*2^n<=m&&&xB:=by
   have h1:(m&&&xB)/2^(n+1)*2^(n+1)<=m&&&xB:=Nat.div_mul_le_self _ _
   have h2:2^n<=2^(n+1):=Nat.pow_le_pow_right (by decide) (by omega)
   exact bu (Nat.mul_le_mul_left _ h2) h1
  have B:((((m&&&xB)/2^(n+1):Nat):Int))*((2^n:Nat):Int)=(((m&&&xB)/2^(n+1)*2^n:Nat):Int):=by simp
  rw [B,ld _ (by omega),lj (by omega) hb]
  have q:gO m n<4294967296:=by grind [gO,Nat.and_le_left]
  show I (bj .or .u32 ((gO m n:Nat):Int) _)=_
  rw [wK q (by omega)]
 ·rw [decide_eq_false h,if_neg h];rfl
def aG (n:Int):Prop:= -9223372036854775808<=n/\n<9223372036854775808
def oC (s:Int):Bool:=decide (s<16777216)
def bP (s i:Int):Bool:=decide (0<=i/\i<24)&&s.toNat.testBit i.toNat
def e_ (s i:Int):Int:=if 0<=i/\i<24 then (((s.toNat&&&xB)|||2^i.toNat:Nat):Int) else ((s.toNat&&&xB:Nat):Int)
def Iw (s i:Int):Int:=if 0<=i/\i<24 then ((dL (s.toNat&&&xB) (2^i.toNat):Nat):Int) else ((s.toNat&&&xB:Nat):Int)
def Iv (s:Int):List Int:=ints (bW s.toNat)
def Db (s i b:Int):Int×Int:=if i<0\/b<0 then (0,2) else (((LR s.toNat i.toNat b.toNat).1:Int),((LR s.toNat i.toNat b.toNat).2:Int))
def pI (s i:Int):Int:=((j7 s.toNat i:Nat):Int)
theorem QE (m:Nat):oC (m:Int)=decide (m<16777216):=by
 grind [oC]
theorem Q9 (hk:Fu k) {s:Int} (h:BC s) (I:Bool->OS S):pm k s I=I (oC s):=by
 obtain ⟨m,q,rfl⟩:=h.nat
 rw [akm hk q,QE]
theorem rF (hk:Fu k) {s:Int} (h:BC s) (i:Int) (I:Bool->OS S):Mh k s i I=I (bP s i):=by
 obtain ⟨m,q,rfl⟩:=h.nat
 rw [akk hk q];rfl
theorem vV (hk:Fu k) {s:Int} (h:BC s) (i:Int) (I:Int->OS S):i_ k s i I=I (e_ s i):=by
 obtain ⟨m,q,rfl⟩:=h.nat
 rw [akn hk q];rfl
theorem vW (hk:Fu k) {s:Int} (h:BC s) (i:Int) (I:Int->OS S):jX k s i I=I (Iw s i):=by
 obtain ⟨m,q,rfl⟩:=h.nat
 rw [ako hk q];rfl
theorem Ny {s:Int} (h:BC s):ra s=Iv s:=by
 obtain ⟨m,q,rfl⟩:=h.nat
 have: ∀i:Nat,(BitVec.ofInt 32 (m:Int)).getLsbD i=m.testBit i:=by
  grind
 simp_all [ra,Iv,ints,bW]
theorem Q6 (hk:Fu k) {s i b:Int} (h:BC s) (q:aG i) (hb:aG b) (I:Int×Int->OS S):lx k s i b I=I (Db s i b):=by
 obtain ⟨m,x,rfl⟩:=h.nat
 by_cases h1:i<0
 ·grind [lx,aY,Db]
 by_cases h2:b<0
 ·grind [lx,aY,Db]
 obtain ⟨n,rfl⟩: ∃n:Nat,i=n:=⟨i.toNat,by omega⟩
 obtain ⟨c,rfl⟩: ∃n:Nat,b=n:=⟨b.toNat,by omega⟩
 have:=q.2;have:=hb.2
 grind [akl,Db]
theorem Q4 (hk:Fu k) {s:Int} (h:BC s) (i:Int) (I:Int->OS S):pk k s i I=I (pI s i):=by
 obtain ⟨m,q,rfl⟩:=h.nat
 rw [akj hk q];rfl
theorem Dy (hk:Fu k) (I:Int->OS S):lw k 0 I=I 0:=by
 simp only [lw,ag hk];rfl
theorem Dz (hk:Fu k) (I:Int->OS S): ∀n:Nat,n<24->lw k ((2^n:Nat):Int) I=I 1:=by
 simp only [lw,ag hk]
 intro n hn
 match n,hn with
 |0,_|1,_|2,_|3,_|4,_|5,_|6,_|7,_|8,_|9,_|10,_|11,_|12,_|13,_|14,_|15,_|16,_|17,_|18,_|19,_|20,_|21,_|22,_|23,_=>rfl
 |n+24,h=>omega
theorem B7 (i:Int):e_ 0 i=if 0<=i/\i<24 then ((2^i.toNat:Nat):Int) else 0:=by
 grind [e_]
theorem ai7 (hk:Fu k) (i:Int) (I:Bool->OS S):yE k i I=I (decide (0<=i/\i<24)):=by
 simp only [yE,ag hk,vV hk (s:=0) ⟨by omega,by omega⟩,B7]
 grind [Dz,Dy]
theorem ai8 (hk:Fu k) (i:Int) (I:Bool->OS S):yK k i I=I (decide (0<=i/\i<24)):=by
 simp only [yK,ag hk,vV hk (s:=0) ⟨by omega,by omega⟩,B7]
 grind [Dz,Dy]
theorem BC.of {n:Nat} (h:n<4294967296):BC (n:Int):=⟨by omega,by omega⟩
theorem ao2 {s i:Int}:0<=e_ s i/\e_ s i<16777216:=by
 have h1:s.toNat&&&xB<16777216:=Nat.lt_of_le_of_lt Nat.and_le_right (by decide)
 unfold e_
 split
 ·next h=>
  have hp:2^i.toNat<2^24:=Nat.pow_lt_pow_right (by decide) (by omega)
  have:=Nat.or_lt_two_pow (n:=24) h1 hp
  omega
 ·omega
theorem Jd {s i:Int}:0<=Iw s i/\Iw s i<16777216:=by
 have h1:s.toNat&&&xB<16777216:=Nat.lt_of_le_of_lt Nat.and_le_right (by decide)
 unfold Iw
 split
 ·have:=vq (n:=24) (b:=2^i.toNat) h1
  omega
 ·omega
theorem aam (m:Nat) (i:Int):j7 m i<16777216:=by
 have h1:m&&&xB<16777216:=Nat.lt_of_le_of_lt Nat.and_le_right (by decide)
 unfold j7
 split
 ·rw [LN]
  grind [Dl,g8]
 omega
deriving instance DecidableEq for Cl
theorem Cl.ext' {a b:Cl} (h1:a.pos=b.pos) (h2:a.neg=b.neg):a=b:=by cases a<;>simp_all
theorem lm (a b:Cl):((a.pos==b.pos)&&((a.neg==b.neg)&&true))=decide (a=b):=by
 grind [Cl.ext']
def aX (c:Cl):Prop:=BC c.pos/\BC c.neg
def aq (f:LC):Prop:= ∀c∈f,aX c
def fE (c:Cl):Bool:=oC c.pos&&oC c.neg
def RC (c:Cl):Prop:=(0<=c.pos/\c.pos<16777216)/\(0<=c.neg/\c.neg<16777216)
theorem RC.ok {c:Cl} (h:RC c):aX c:=⟨⟨h.1.1,by have:=h.1.2;omega⟩,⟨h.2.1,by have:=h.2.2;omega⟩⟩
theorem Bp {c:Cl} (h:aX c):fE c=true↔RC c:=by
 unfold fE oC RC
 simp only [qk,decide_eq_true_eq]
 have h1:=h.1.1;have h2:=h.2.1
 omega
def ep (a b:Int):Int:=((a.toNat|||b.toNat:Nat):Int)
theorem tS {a b:Int} (ha:BC a) (hb:BC b):bj .or .u32 a b=ep a b:=by
 obtain ⟨m,q,rfl⟩:=ha.nat;obtain ⟨n,hn,rfl⟩:=hb.nat
 rw [wK q hn];rfl
def d9 (a b:Cl):Cl:=⟨ep a.pos b.pos,ep a.neg b.neg⟩
def dR (a b:Cl):Bool:=decide (d9 a b=a)
def bS (c:Cl):Bool:= !decide (c.pos.toNat&&&c.neg.toNat=0)
theorem FX {a b:Int} (ha:BC a) (hb:BC b):BC (ep a b):=by
 obtain ⟨m,q,rfl⟩:=ha.nat;obtain ⟨n,hn,rfl⟩:=hb.nat
 exact BC.of (Nat.or_lt_two_pow (n:=32) q hn)
theorem Aw {a b:Cl} (ha:aX a) (hb:aX b):aX (d9 a b):=⟨FX ha.1 hb.1,FX ha.2 hb.2⟩
theorem Rg (hk:Fu k) {c:Cl} (h:aX c) (I:Bool->OS S):tC k c I=I (fE c):=by
 simp only [tC,ag hk,Q9 hk h.1,Q9 hk h.2,fE,cH]
 grind
theorem G_ (hk:Fu k) {a b:Cl} (ha:aX a) (hb:aX b) (I:Cl->OS S):pb k a b I=I (d9 a b):=by
 simp only [pb,tS ha.1 hb.1,tS ha.2 hb.2];rfl
theorem ai3 (hk:Fu k) {a b:Cl} (ha:aX a) (hb:aX b) (I:Bool->OS S):yA k a b I=I (dR a b):=by
 simp only [yA,ag hk,G_ hk ha hb,lm];rfl
theorem Rf (hk:Fu k) {c:Cl} (h:aX c) (I:Bool->OS S):tB k c I=I (bS c):=by
 obtain ⟨p,n⟩:=c
 obtain ⟨m,q,rfl⟩:=h.1.nat;obtain ⟨n,hn,rfl⟩:=h.2.nat
 simp only [tB,lj q hn,bS,Ej]
 congr 2
 grind
open Classical in
theorem aln (s:Int) (x:Nat) (q:x<24) (j:Nat):(e_ s (x:Int)).toNat.testBit j=((s.toNat.testBit j&&decide (j<24))||decide (j=x)):=by
 unfold e_
 rw [if_pos (by omega),Ej,Ej,Nat.testBit_or,Nat.testBit_and,g8,Nat.testBit_two_pow,Bool.eq_iff_iff]
 grind
def dw (c:Cl) (i b:Int):Cl×Int:=
 if fE c then
  if (Db c.pos i b).2=0 then if (Db c.neg i b).2=0 then (⟨(Db c.pos i b).1,(Db c.neg i b).1⟩,0) else (⟨0,0⟩,(Db c.neg i b).2)
  else (⟨0,0⟩,(Db c.pos i b).2)
 else (⟨0,0⟩,2)
theorem ai4 (hk:Fu k) {c:Cl} {i b:Int} (h:aX c) (q:aG i) (hb:aG b) (I:Cl×Int->OS S):yD k c i b I=I (dw c i b):=by
 simp only [yD,ag hk,Rg hk h,Q6 hk h.1 q hb,Q6 hk h.2 q hb,cH,dw,Bool.not_eq_true',beq_eq_false_iff_ne]
 grind
def gP (a b:Cl):Prop:=a.pos<b.pos\/(a.pos=b.pos/\a.neg<b.neg)
def qZ (a b:Cl):Bool:=decide (a.pos<b.pos)||(a.pos==b.pos&&decide (a.neg<b.neg))
theorem agh {a b:Cl}:qZ a b=true↔gP a b:=by unfold qZ gP;simp
theorem LP {a b c:Cl} (h:gP a b) (h':gP b c):gP a c:=by grind [gP]
theorem LO {a:Cl} (h:gP a a):False:=by grind [gP]
theorem agC (a b:Cl):gP a b\/a=b\/gP b a:=by
 grind [Cl.ext',gP]
abbrev lg (l:LC):Prop:=l.Pairwise gP
theorem BL: ∀ {a b:LC},lg a->lg b->(∀c,c∈a↔c∈b)->a=b:=by
 intro a
 induction a with
 |nil=>
  intro b _ _ h
  cases b with
  |nil=>rfl
  |cons y b=>exact absurd ((h y).2 (by simp)) (by simp)
 |cons x a B=>
  intro b ha hb h
  cases b with
  |nil=>grind
  |cons y b=>
   have q:=List.pairwise_cons.1 ha;have z:=List.pairwise_cons.1 hb
   have A:x=y:=by
    rcases xF.1 ((h x).1 (by simp)) with h1|h1
    ·exact h1
    ·rcases xF.1 ((h y).2 (by simp)) with h2|h2<;>grind [LP,LO]
   grind [LO]
def fq (x:Cl):LC->LC
 |[]=>[x]
 |y::r=>if qZ y x then y::fq x r else if y=x then y::r else x::y::r
theorem NE {x c:Cl}: ∀ {l:LC},c∈fq x l↔c=x\/c∈l:=by
 intro l
 induction l<;>grind [fq]
theorem adp {x:Cl}: ∀ {l:LC},lg l->lg (fq x l):=by
 intro l
 induction l<;>grind [fq,List.pairwise_cons,NE,agh,agC,LP]
theorem K_ {x:Cl}: ∀ {l:LC},(fq x l).length<=l.length+1:=by
 intro l
 induction l<;>grind [fq]
def ce (l:LC) (c:Cl):Bool:=l.all fun d=>decide (d=c)|| !dR c d
def Sq (o l:LC):LC:=l.foldl (fun o c=>fq c o) o
def Ic (l:LC):LC:=Sq [] (l.filter (ce l))
theorem agJ {c:Cl}: ∀ {l o:LC},c∈Sq o l↔c∈l\/c∈o:=by
 intro l
 induction l with
 |nil=>grind [Sq]
 |cons x l q=>
  intro o
  show c∈Sq (fq x o) l↔_
  grind [NE]
theorem ado: ∀ {l o:LC},lg o->lg (Sq o l):=by
 intro l
 induction l with
 |nil=>intro o h;exact h
 |cons x l q=>intro o h;exact q (adp h)
theorem adn: ∀ {l o:LC},(Sq o l).length<=o.length+l.length:=by
 intro l
 induction l<;>grind [Sq,K_]
theorem hQ (l:LC):lg (Ic l):=ado List.Pairwise.nil
theorem tc {l:LC} {c:Cl}:c∈Ic l↔c∈l/\ce l c=true:=by
 grind [Ic,agJ]
theorem agM (l:LC):(Ic l).length<=l.length:=by
 grind [adn,Ic]
theorem NK {l l':LC} (h: ∀c,c∈l↔c∈l') (c:Cl):ce l c=ce l' c:=by
 grind [ce]
def bp (l:LC):LC×Int:=if l.all fE then if (Ic l).length>64 then ([],3) else (Ic l,0) else ([],2)
theorem yq {S:Type} {p:Prop} [Decidable p] (h:p) (f:Unit->OS S):oa (bR p) f=f ():=fN p h f
theorem aiS (hk:Fu k) {d c:Cl} (hd:aX d) (hc:aX c) (I:Bool->OS S):yC k d c I=I (!(decide (d=c)|| !dR c d)):=by
 grind [yC,lm,cH,ag,ai3,dR]
theorem aeZ (hk:Fu k) (I:Int->OS S) {c:Cl} (hc:aX c) {l:LC} (hl:aq l) (hlen:l.length<2147483648):
  ∀ (r p:LC) (m:Nat),l=p++r->r.length<m-> ∃v:Int,decide (v>=0)= !ce r c/\qO k I c l m (p.length:Int)=I v:=by
 intro r
 induction r with
 |nil=>
  intro p m h z
  obtain ⟨m,rfl,q⟩:=py z
  exact ⟨-1,rfl,by grind [qO,yc,n3]⟩
 |cons x r A=>
  intro p m h z
  obtain ⟨m,rfl,q⟩:=py z
  obtain ⟨E,F,J,B⟩:=qH h (by omega)
  have L:aX x:=hl x (by grind)
  obtain ⟨v,hv,M⟩:=A (p++[x]) m B q
  have O:ce (x::r) c=((decide (x=c)|| !dR c x)&&ce r c):=by rfl
  grind [qO,yc,ae,ag,aiS,decide,dR,n3]
theorem ajq (hk:Fu k) {c:Cl} (hc:aX c) {l:LC} (hl:aq l) (hlen:l.length<2147483648) (I:Bool->OS S):yB k c l I=I (!ce l c):=by
 obtain ⟨v,hv,q⟩:=aeZ hk (fun r1:Int=>I (decide (r1>=0))) hc hl hlen l [] k rfl (by omega)
 grind [yB,DT,DV,IM,ag]
theorem ae2 (hk:Fu k) (I:LC×Int->OS S) {l:LC} (hl:aq l) (hlen:l.length<2147483648):
  ∀ (r p:LC) (m:Nat) (q:LC),l=p++r->r.length<m->q.length<=p.length->
  nz k I l m (p.length:Int) q=I (if (q++r.filter (ce l)).length>64 then ([],3) else (sortCl (q++r.filter (ce l)),0)):=by
 intro r
 induction r with
 |nil=>
  grind [py,nz,wM,aY]
 |cons x r A=>
  intro p m q h B T
  obtain ⟨m,rfl,z⟩:=py B
  obtain ⟨E,F,J,L⟩:=qH h (by omega)
  have M:aX x:=hl x (by grind)
  have O:p.length<l.length:=by grind
  simp only [nz,wM,E,ae,F,ql,ag hk,ajq hk M hl hlen,Bool.not_not]
  rw [J]
  cases hn:ce l x with
  |true=>
   rw [ae,J5 (by grind),List.filter_cons_of_pos hn,A (p++[x]) m (q++[x]) L z (by grind)]
   simp
  |false=>
   rw [n3,List.filter_cons_of_neg (by grind)]
   grind
theorem zT (a b:Cl):eS VV ET.C a b=decide (a=b):=by
 have e:eS VV ET.C a b=((a.pos==b.pos)&&((a.neg==b.neg)&&true)):=by
  rfl
 rw [e,lm]
theorem agK (l:List (Cl×Bool)) (x y:Cl):dW VV ET.C (KN VV ET.C l x true) y=if x=y then some true else dW VV ET.C l y:=by
 induction l with
 |nil=>
  show (bif eS VV ET.C x y then some true else .none)=_
  simp_all [zT,dW]
 |cons a r q=>
  obtain ⟨z,b⟩:=a
  show dW VV ET.C (bif eS VV ET.C z x then (z,true)::r else (z,b)::KN VV ET.C r x true) y=_
  rw [zT]
  by_cases h:z=x
  ·subst h
   rw [decide_eq_true rfl,cond_true]
   show (bif eS VV ET.C z y then some true else dW VV ET.C r y)=if z=y then some true else (bif eS VV ET.C z y then some b else dW VV ET.C r y)
   grind [zT]
  ·rw [decide_eq_false h,cond_false]
   show (bif eS VV ET.C z y then some b else dW VV ET.C (KN VV ET.C r x true) y)=if x=y then some true else (bif eS VV ET.C z y then some b else dW VV ET.C r y)
   grind [zT]
theorem akd {l o:LC} (hn:o.Nodup) (h: ∀c,c∈o↔c∈l):sortCl (o.filter (ce o))=Ic l/\(o.filter (ce o)).length=(Ic l).length:=by
 have hp:(sortCl (o.filter (ce o))).Perm (o.filter (ce o)):=List.mergeSort_perm _ _
 have hs:(sortCl (o.filter (ce o))).Pairwise (fun a b=>lq a b=true):=
  List.pairwise_mergeSort (le:=lq) (fun a b c h1 h2=>by
   grind [lq]) (fun a b=>by
   grind [lq]) _
 have x:(sortCl (o.filter (ce o))).Nodup:=hp.nodup_iff.2 (hn.filter _)
 have q:lg (sortCl (o.filter (ce o))):=by
  refine (hs.and x).imp fun {a b} h=> ?_
  have h1:=h.1
  unfold lq at h1
  simp only [Bool.or_eq_true,qk,decide_eq_true_eq,beq_iff_eq] at h1
  rcases h1 with h1|h1
  ·exact .inl h1
  ·refine .inr ⟨h1.1, ?_⟩
   grind [Cl.ext']
 have he:sortCl (o.filter (ce o))=Ic l:=BL q (hQ l) fun c=>by
  grind [tc,NK]
 exact ⟨he,by rw [<-he,hp.length_eq]⟩
theorem af3 (hk:Fu k) (I:LC×Int->OS S) {l:LC} (hl:aq l) (hlen:l.length<2147483648):
  ∀ (r p:LC) (m:Nat) (q:List (Cl×Bool)) (o:LC),l=p++r->r.length<m->o.length<=p.length->o.Nodup->(∀c:Cl,(dW VV ET.C q c).getD false=decide (c∈o))->(∀c,c∈o↔c∈p)->
  pZ k I l m q o (p.length:Int)=I (if r.all fE then if (Ic l).length>64 then ([],3) else (Ic l,0) else ([],2)):=by
 intro r
 induction r with
 |nil=>
  intro p m q o h E ho A L z
  obtain ⟨m,rfl,B⟩:=py E
  have hp:l=p:=by grind
  subst hp
  have F:aq o:=fun c hc=>hl c ((z c).1 hc)
  have M:4294967296<=k:=hk
  simp only [pZ,gk,xw h,n3,List.all_nil,if_true]
  have:=ae2 hk I F (by omega) o [] k [] rfl (by omega) (by simp)
  grind [akd]
 |cons x r O=>
  intro p m q o h E ho A L z
  obtain ⟨m,rfl,B⟩:=py E
  obtain ⟨T,W,Y,e4⟩:=qH h (by omega)
  have hx:aX x:=hl x (by grind)
  have ad:p.length<l.length:=by grind
  simp only [pZ,gk,T,ae,W,ql,ag hk,Rg hk hx]
  rw [L,Y]
  by_cases hr:fE x=true
  ·have:(x::r).all fE=r.all fE:=by grind
   rw [hr,va,n3,this]
   by_cases J:x∈o
   ·grind [n3]
   ·rw [decide_eq_false J,sV,ae,J5 (by grind)]
    refine O (p++[x]) m _ (o++[x]) e4 B (by grind) (List.nodup_append.2 ⟨A,by simp,fun a ha b hb=>by grind⟩) (fun c=> ?_) fun c=> ?_
    all_goals grind [agK]
  grind [ae]
theorem kX (hk:Fu k) {l:LC} (hl:aq l) (hlen:l.length<2147483648) (I:LC×Int->OS S):gy k l I=I (bp l):=by
 simp only [gy,Hw]
 exact af3 hk I hl hlen l [] k [] [] rfl (by omega) (by simp) List.nodup_nil (fun c=>by rfl) (fun c=>Iff.rfl)
theorem aeg (hk:Fu k) (I:Bool->OS S) {a b:LC} (hlen:a.length<4294967296):
  ∀ (r s p q:LC) (m:Nat),a=p++r->b=q++s->p.length=q.length->r.length=s.length->r.length<m->qN k I a b m (p.length:Int)=I (decide (r=s)):=by
 intro r
 induction r with
 |nil=>
  grind [py,qN,yb,n3]
 |cons x r E=>
  intro s p q m h h' F z J
  obtain ⟨m,rfl,A⟩:=py J
  cases s with
  |nil=>cases z
  |cons y s=>
   obtain ⟨L,M,O,T⟩:=qH h (by omega)
   have B:af b (p.length:Int)=some y:=by grind [uB]
   simp only [qN,yb,L,ae,M,B,ql,lm,O]
   rw [E s (p++[x]) (q++[y]) m T (by grind) (by simp_all) (by grind) A]
   by_cases W:x=y<;>simp_all [n3,ae]
theorem iv (hk:Fu k) {a b:LC} (hlen:a.length<4294967296) (I:Bool->OS S):zz k a b I=I (decide (a=b)):=by
 simp only [zz,IL]
 by_cases h:a.length=b.length
 ·have e:((a.length:Int)==(b.length:Int))=true:=by simp [h]
  rw [e,va,n3]
  exact aeg hk I hlen a b [] [] k rfl rfl rfl h (by omega)
 ·have e:((a.length:Int)==(b.length:Int))=false:=by grind
  rw [e,sV,ae,decide_eq_false]
  grind
theorem LF (l:LC):(bp l).1.length<=64:=by
 grind [bp]
def xW (f:LC):Bool:=decide (bp f=(f,0))
theorem rH (hk:Fu k) {f:LC} (hf:aq f) (hlen:f.length<2147483648) (I:Bool->OS S):hY k f I=I (xW f):=by
 have:=LF f
 simp only [hY,ag hk,kX hk hf hlen,iv hk (show (bp f).1.length<4294967296 by omega),cH,xW,beq_iff_eq]
 by_cases h:(bp f).2=0
 all_goals simp_all [Prod.ext_iff]
def RF (f:LC):Prop:=bp f=(f,0)/\aq f
theorem L6 {f:LC} (h:aq f):xW f=true↔RF f:=by grind [xW,RF]
theorem RF.right {f:LC} (h:RF f):xW f=true:=by unfold xW;simp [h.1]
theorem As {l o:LC} (h:bp l=(o,0)):o=Ic l/\l.all fE=true/\o.length<=64:=by
 grind [bp]
theorem RF.len {f:LC} (h:RF f):f.length<=64:=(As h.1).2.2
theorem RF.rc {f:LC} (h:RF f) {c:Cl} (hc:c∈f):RC c:=(Bp (h.2 c hc)).1 (xo.1 (As h.1).2.1 c hc)
theorem agN (l:LC):Ic (Ic l)=Ic l:=BL (hQ _) (hQ _) fun c=>by
 grind [tc,ce]
theorem qX {l:LC} (hl:aq l) (h:(bp l).2=0):RF (bp l).1:=by
 have h':bp l=((bp l).1,0):=Prod.ext rfl h
 obtain ⟨h1,h2,x⟩:=As h'
 have q:aq (bp l).1:=fun c hc=>hl c ((tc.1 (h1▸hc)).1)
 refine ⟨?_,q⟩
 grind [bp,tc,agN]
theorem agf {l:LC} (h:(bp l).2≠0):(bp l).1=[]:=by
 grind [bp]
theorem rA:RF []:=⟨rfl,fun c hc=>by cases hc⟩
theorem gS {c:Cl} (h:RC c):RF [c]:=by
 have q:aq [c]:=fun d hd=>by simp at hd;subst hd;exact h.ok
 refine ⟨?_,q⟩
 have x:Ic [c]=[c]:=BL (hQ _) (by simp) fun d=>by
  grind [tc,ce]
 unfold bp
 rw [x,if_pos (by simp [(Bp h.ok).2 h]),if_neg (by simp)]
theorem oA:RC ⟨0,0⟩:=⟨⟨by decide,by decide⟩,by decide,by decide⟩
theorem MY {f g:LC} (hf:aq f) (q:aq g):aq (f++g):=fun c hc=>by
 rcases xN.1 hc with h|h
 ·exact hf c h
 ·exact q c h
theorem afJ (hk:Fu k) (I:Int->OS S) {l:List (LC)} (hl: ∀f∈l,aq f/\f.length<2147483648) (hlen:l.length<4294967296):
  ∀ (r p:List (LC)) (m:Nat),l=p++r->r.length<m->qi k I l m (p.length:Int)=I (if r.all xW then 0 else 2):=by
 intro r
 induction r with
 |nil=>
  grind [py,qi,w9,n3]
 |cons x r A=>
  intro p m h q
  obtain ⟨m,rfl,z⟩:=py q
  obtain ⟨B,E,F,J⟩:=qH h (by omega)
  have L:=hl x (by grind)
  grind [qi,w9,ae,ag,rH,n3]
theorem Hc (hk:Fu k) {l:List (LC)} (hl: ∀f∈l,aq f/\f.length<2147483648) (hlen:l.length<4294967296) (I:Int->OS S):pi k l I=I (if l.all xW then 0 else 2):=by
 simp only [pi,HT]
 exact afJ hk I hl hlen l [] k rfl (by omega)
def Iy (f g:LC):LC×Int:=bp (f++g)
def meets (f g:LC):LC:=f.flatMap fun a=>g.map (d9 a)
def Ix (f g:LC):LC×Int:=bp (meets f g)
theorem ND {f g:LC} (hf:aq f) (q:aq g):aq (meets f g):=fun c hc=>by
 obtain ⟨a,ha,hc⟩:=List.mem_flatMap.1 hc
 obtain ⟨b,hb,rfl⟩:=xl.1 hc
 exact Aw (hf a ha) (q b hb)
theorem kS {f g:LC} (hf:aq f) (q:aq g) (h:(Ix f g).2=0):RF (Ix f g).1:=qX (ND hf q) h
theorem Lc {f g:LC} (hf:aq f) (q:aq g) (h:(Iy f g).2=0):RF (Iy f g).1:=qX (MY hf q) h
theorem Bz (hk:Fu k) {f g:LC} (hf:aq f) (q:aq g) (h1:f.length<1073741824) (h2:g.length<1073741824) (I:LC×Int->OS S):na k f g I=I (Iy f g):=by
 simp only [na,ag hk,zg]
 rw [J5 (by grind),J5 (by omega),kX hk (MY hf q) (by grind)]
 rfl
theorem afa (hk:Fu k) (I:LC×Int->OS S) (q:Int->LC->OS S) {x:Cl} (B:aX x) {g f:LC} {v:Int} (E:aq g) (hlen:g.length<65536):
  ∀ (r p:LC) (m:Nat) (o:LC),g=p++r->r.length<m->o.length+r.length<1099511627776->nA k I q x g f v m (p.length:Int) o=q (ot .i64 (v+1)) (o++r.map (d9 x)):=by
 intro r
 induction r with
 |nil=>
  intro p m o h z ho
  obtain ⟨m,rfl,A⟩:=py z
  grind [nA,w7,n3]
 |cons y r O=>
  intro p m o h z ho
  obtain ⟨m,rfl,A⟩:=py z
  obtain ⟨F,J,L,T⟩:=qH h (by omega)
  have M:aX y:=E y (by grind)
  simp only [uN] at ho
  simp only [nA,w7,F,ae,J,ql,ag hk,G_ hk B M,L]
  grind [J5]
theorem ae_ (hk:Fu k) (I:LC×Int->OS S) {g f:LC} (hf:aq f) (A:aq g) (E:f.length<32768) (F:g.length<32768):
  ∀ (r p:LC) (m:Nat) (o:LC),f=p++r->r.length<m->aq o->o.length+r.length*g.length<1073741825->lZ k I g f m (p.length:Int) o=I (bp (o++meets r g)):=by
 intro r
 induction r with
 |nil=>
  grind [py,lZ,l5,n3,ag,kX,meets]
 |cons x r J=>
  intro p m o h L q ho
  obtain ⟨m,rfl,z⟩:=py L
  obtain ⟨M,O,T,W⟩:=qH h (by omega)
  have B:aX x:=hf x (by grind)
  have hmul:(x::r).length*g.length=r.length*g.length+g.length:=by grind
  rw [hmul] at ho
  have Y:4294967296<=k:=hk
  simp only [lZ,l5,M,ae,O,ql]
  have:=afa hk I (lZ k I g f m) (f:=f) (v:=(p.length:Int)) B A (by omega) g [] k o rfl (by omega) (by omega)
  simp only [List.length_nil] at this
  rw [show (0:Int)=((0:Nat):Int) from rfl,this,T,J (p++[x]) m _ W z (MY q fun c hc=>by
   obtain ⟨b,hb,rfl⟩:=xl.1 hc
   exact Aw B (A b hb)) (by grind)]
  simp [meets]
theorem vY (hk:Fu k) {f g:LC} (hf:aq f) (q:aq g) (h1:f.length<32768) (h2:g.length<32768) (I:LC×Int->OS S):jW k f g I=I (Ix f g):=by
 simp only [jW,HR]
 have hb:f.length*g.length<1073741824:=Nat.lt_of_le_of_lt (Nat.mul_le_mul (Nat.le_of_lt_succ h1) (Nat.le_of_lt_succ h2)) (by decide)
 have:=ae_ hk I hf q h1 h2 f [] k [] rfl (by omega) (fun c hc=>by cases hc) (by grind)
 grind [Ix]
theorem RF.lt {f:LC} (h:RF f):f.length<2147483648:=by have:=h.len;omega
theorem u0:BC 0:=⟨by decide,by decide⟩
def nl (i:Int):Cl:=⟨0,e_ 0 i⟩
def pl (i:Int):Cl:=⟨e_ 0 i,0⟩
theorem FR (i:Int):RC (nl i):=⟨⟨by show (0:Int)<=0;decide,by show (0:Int)<16777216;decide⟩,ao2⟩
theorem F1 (i:Int):RC (pl i):=⟨ao2,⟨by show (0:Int)<=0;decide,by show (0:Int)<16777216;decide⟩⟩
def jI (c:Cl):LC:=(Iv c.pos).map nl++(Iv c.neg).map pl
def oj (c:Cl):LC×Int:=bp (jI c)
theorem Fi (s:Int):(Iv s).length<=24:=by grind [Iv,amb,gu]
theorem NV {c d:Cl} (h:d∈jI c):RC d:=by
 rcases xN.1 h with h|h<;>grind [FR,F1]
theorem ahw (c:Cl):(jI c).length<=48:=by
 grind [Fi,jI]
theorem LH {l:LC} (h: ∀c∈l,RC c) (hl:l.length<=64):(bp l).2=0:=by
 have:=agM l
 unfold bp
 rw [if_pos (xo.2 fun c hc=>(Bp (h c hc).ok).2 (h c hc)),if_neg (by omega)]
theorem NW (c:Cl):(oj c).2=0:=LH (fun d hd=>NV hd) (by have:=ahw c;omega)
theorem AC (c:Cl):RF (oj c).1:=qX (fun d hd=>(NV hd).ok) (NW c)
theorem afe (hk:Fu k) (I:LC×Int->OS S) {l:List Int} (hlen:l.length<=64):
  ∀ (r p:List Int) (m:Nat) (o:LC),l=p++r->r.length<m->aq o->o.length+r.length<1073741824->Sp k I l m (p.length:Int) o=I (bp (o++r.map pl)):=by
 intro r
 induction r with
 |nil=>
  grind [py,Sp,w8,n3,ag,kX]
 |cons x r A=>
  intro p m o h B q ho
  obtain ⟨m,rfl,z⟩:=py B
  obtain ⟨E,F,J,L⟩:=qH h (by omega)
  simp only [uN] at ho
  simp only [Sp,w8,E,ae,F,ql,ag hk,vV hk u0,J]
  rw [J5 (by grind),A (p++[x]) m _ L z (MY q fun c hc=>by simp at hc;subst hc;exact (F1 x).ok) (by grind)]
  simp [pl]
theorem afd (hk:Fu k) (I:LC×Int->OS S) {c:Cl} (hc:aX c) {l:List Int} (hlen:l.length<=64):
  ∀ (r p:List Int) (m:Nat) (o:LC),l=p++r->r.length<m->aq o->o.length+r.length<1000000->qh k I c l m (p.length:Int) o=I (bp (o++r.map nl++(Iv c.neg).map pl)):=by
 intro r
 induction r with
 |nil=>
  intro p m o h A q ho
  obtain ⟨m,rfl,z⟩:=py A
  simp only [List.length_nil] at ho
  have hl:=Fi c.neg
  have B:4294967296<=k:=hk
  simp only [qh,q6,xw h,n3,vz,Ny hc.2,List.map_nil,xS]
  grind [afe]
 |cons x r E=>
  intro p m o h A q ho
  obtain ⟨m,rfl,z⟩:=py A
  obtain ⟨F,J,L,M⟩:=qH h (by omega)
  simp only [uN] at ho
  simp only [qh,q6,F,ae,J,ql,ag hk,vV hk u0,L]
  rw [J5 (by grind),E (p++[x]) m _ M z (MY q fun c hc=>by simp at hc;subst hc;exact (FR x).ok) (by grind)]
  simp [nl]
theorem ajs (hk:Fu k) {c:Cl} (hc:aX c) (I:LC×Int->OS S):yV k c I=I (oj c):=by
 have hl:=Fi c.pos
 simp only [yV,HS,vz,Ny hc.1]
 have:=afd hk I hc (l:=Iv c.pos) (by omega) (Iv c.pos) [] k [] rfl (by omega) (fun c hc=>by cases hc) (by grind)
 grind [oj,jI]
def xJ (step:LC->Cl->LC×Int):LC->LC->LC×Int
 |h,[]=>(h,0)
 |h,c::r=>if (step h c).2=0 then xJ step (step h c).1 r else ([],(step h c).2)
def mn (h:LC) (c:Cl):LC×Int:=Ix h (oj c).1
def FG (f:LC):LC×Int:=xJ mn [⟨0,0⟩] f
theorem KG {step:LC->Cl->LC×Int} (hs: ∀h c,RF h->(step h c).2=0->RF (step h c).1): ∀ {r h:LC},RF h->(xJ step h r).2=0->RF (xJ step h r).1:=by
 intro r
 induction r<;>grind [xJ]
theorem FS (h:LC) (c:Cl) (q:RF h) (x:(mn h c).2=0):RF (mn h c).1:=kS q.2 (AC c).2 x
theorem ju {f:LC} (h:(FG f).2=0):RF (FG f).1:=KG FS (gS oA) h
theorem bG (n:Int):(n==0)=decide (n=0):=by rfl
theorem ajr (hk:Fu k) {h:LC} {c:Cl} (q:RF h) (hc:aX c) (I:LC×Int->OS S):yU k h c I=I (mn h c):=by
 have:=q.len;have:=(AC c).len
 simp only [yU,ag hk,ajs hk hc,NW,vY hk q.2 (AC c).2 (show h.length<32768 by omega) (show (oj c).1.length<32768 by omega)]
 rfl
theorem aeS (hk:Fu k) (I:LC×Int->OS S) {l:LC} (hl:aq l) (hlen:l.length<2147483648):
  ∀ (r p:LC) (m:Nat) (h:LC),l=p++r->r.length<m->RF h->qe k I l m h (p.length:Int)=I (xJ mn h r):=by
 intro r
 induction r with
 |nil=>
  intro p m h e q A
  obtain ⟨m,rfl,z⟩:=py q
  simp only [qe,hI,xw e,n3];rfl
 |cons x r L=>
  intro p m h e q A
  obtain ⟨m,rfl,z⟩:=py q
  obtain ⟨B,E,F,M⟩:=qH e (by omega)
  have J:aX x:=hl x (by grind)
  simp only [qe,hI,B,ae,E,ql,ag hk,ajr hk A J,bG,F]
  grind [n3,FS,xJ,ae]
theorem Rq (hk:Fu k) {f:LC} (hf:aq f) (hlen:f.length<2147483648) (I:LC×Int->OS S):ph k f I=I (FG f):=by
 simp only [ph,ag hk,Nr,DP,HP]
 exact aeS hk I hf hlen f [] k _ rfl (by omega) (gS oA)
theorem aja (hk:Fu k) {f:LC} (hf:aq f) (hlen:f.length<2147483648) (I:LC×Int->OS S):yQ k f I=I (if xW f then FG f else ([],2)):=by
 simp only [yQ,ag hk,Hc hk (l:=[f]) (by grind) (by simp),Rq hk hf hlen]
 have:[f].all xW=xW f:=by simp
 rw [this]
 by_cases h:xW f=true
 ·rw [if_pos h,if_pos h];rfl
 ·rw [if_neg h,if_neg h];rfl
def eu (i:Int) (c:Cl):Cl:=⟨Iw c.pos i,Iw c.neg i⟩
theorem kg (i:Int) (c:Cl):RC (eu i c):=⟨Jd,Jd⟩
def d_ (i:Int) (r:LC) (c:Cl):LC×Int:=if bP c.pos i then Ix [eu i c] r else ([eu i c],0)
def MD (i:Int) (r:LC) (c:Cl) (g:LC):LC×Int:=if bP c.neg i then if (FG r).2=0 then Ix g (FG r).1 else ([],(FG r).2) else (g,0)
def dY (i:Int) (r h:LC) (c:Cl):LC×Int:=
 if (d_ i r c).2=0 then if (MD i r c (d_ i r c).1).2=0 then Iy h (MD i r c (d_ i r c).1).1 else ([],(MD i r c (d_ i r c).1).2) else ([],(d_ i r c).2)
def lL (i:Int):Bool:=decide (0<=i/\i<24)
def iH (f:LC) (i:Int) (r:LC):LC×Int:=if xW f&&xW r&&lL i then xJ (dY i r) [] f else ([],2)
theorem ahI {i:Int} {r:LC} {c:Cl} (q:RF r) (h:(d_ i r c).2=0):RF (d_ i r c).1:=by
 unfold d_ at h ⊢
 split
 ·next x=>rw [if_pos x] at h;exact kS (gS (kg i c)).2 q.2 h
 simp_all [gS,kg]
theorem ahK {i:Int} {r g:LC} {c:Cl} (q:RF g) (h:(MD i r c g).2=0):RF (MD i r c g).1:=by
 unfold MD at h ⊢
 split
 ·next x=>
  rw [if_pos x] at h
  split
  ·next hn=>rw [if_pos hn] at h;exact kS q.2 (ju hn).2 h
  grind
 omega
theorem N5 {i:Int} {r:LC} (x:RF r) (h:LC) (c:Cl) (z:RF h) (q:(dY i r h c).2=0):RF (dY i r h c).1:=by
 unfold dY at q ⊢
 split
 ·next ha=>
  rw [if_pos ha] at q
  have hA:=ahI x ha
  split
  ·next hb=>rw [if_pos hb] at q;exact Lc z.2 (ahK hA hb).2 q
  grind
 grind
theorem aiU (hk:Fu k) {i:Int} {r h:LC} {c:Cl} (x:RF r) (A:RF h) (hc:aX c) (I:LC×Int->OS S):yS k h c i r I=I (dY i r h c):=by
 have L:=x.len;have M:=A.len
 have z:=gS (kg i c)
 simp only [yS,ag hk,vW hk hc.1,vW hk hc.2,rF hk hc.1,rF hk hc.2,vY hk z.2 x.2 (show [eu i c].length<32768 by simp) (show r.length<32768 by omega),Rq hk x.2 x.lt,bG,cH,decide_eq_true_eq,Bool.not_eq_true',decide_eq_false_iff_not]
 have e: ∀ (f:LC×Int->OS S),jW k [Cl.mk (Iw c.pos i) (Iw c.neg i)] r f=f (Ix [eu i c] r):=fun f=>vY hk z.2 x.2 (by simp) (by omega) f
 simp only [e]
 unfold dY d_ MD
 by_cases hp:bP c.pos i=true
 ·simp only [hp,if_true]
  by_cases h1:(Ix [eu i c] r).2=0
  ·have hA:RF (Ix [eu i c] r).1:=kS z.2 x.2 h1
   have O:=hA.len
   simp only [h1,not_true,if_false,if_true]
   by_cases hn:bP c.neg i=true
   ·simp only [hn,if_true]
    by_cases h2:(FG r).2=0
    ·have q:=ju h2
     have E:=q.len
     simp only [h2,not_true,if_false,if_true]
     rw [vY hk hA.2 q.2 (by omega) (by omega)]
     by_cases B:(Ix (Ix [eu i c] r).1 (FG r).1).2=0
     ·have hB:=kS hA.2 q.2 B
      have F:=hB.len
      simp only [B,not_true,if_false,if_true]
      rw [Bz hk A.2 hB.2 (by omega) (by omega)]
     grind
    grind
   ·simp only [hn,Bool.false_eq_true,if_false,if_true]
    rw [Bz hk A.2 hA.2 (by omega) (by omega)]
  grind
 ·simp only [hp,Bool.false_eq_true,if_false,if_true]
  by_cases hn:bP c.neg i=true
  ·simp only [hn,if_true]
   by_cases h2:(FG r).2=0
   ·have q:=ju h2
    have E:=q.len
    simp only [h2,not_true,if_false,if_true]
    have J: ∀ (f:LC×Int->OS S),jW k [Cl.mk (Iw c.pos i) (Iw c.neg i)] (FG r).1 f=f (Ix [eu i c] (FG r).1):=fun f=>vY hk z.2 q.2 (by simp) (by omega) f
    rw [J]
    by_cases B:(Ix [eu i c] (FG r).1).2=0
    ·have hB:=kS z.2 q.2 B
     have F:=hB.len
     simp only [B,not_true,if_false,if_true]
     rw [Bz hk A.2 hB.2 (by omega) (by omega)]
    grind
   grind
  ·simp only [hn,Bool.false_eq_true,if_false,if_true]
   have:=Bz hk A.2 z.2 (by omega) (by simp) I
   exact this
theorem aeT (hk:Fu k) (I:LC×Int->OS S) {i:Int} {q:LC} (E:RF q) {l:LC} (hl:aq l) (hlen:l.length<2147483648):
  ∀ (r p:LC) (m:Nat) (h:LC),l=p++r->r.length<m->RF h->qc k I i q l m h (p.length:Int)=I (xJ (dY i q) h r):=by
 intro r
 induction r with
 |nil=>
  intro p m h e z B
  obtain ⟨m,rfl,A⟩:=py z
  simp only [qc,wZ,xw e,n3];rfl
 |cons x r O=>
  intro p m h e z B
  obtain ⟨m,rfl,A⟩:=py z
  obtain ⟨F,J,L,T⟩:=qH e (by omega)
  have M:aX x:=hl x (by grind)
  simp only [qc,wZ,F,ae,J,ql,ag hk,aiU hk E B M,bG,L]
  grind [n3,N5,xJ,ae]
theorem aiL (hk:Fu k) (i:Int) (I:LC×Int->OS S):yP k i I=I (if lL i then ([⟨e_ 0 i,0⟩],0) else ([],2)):=by
 simp only [yP,ag hk,vV hk u0]
 grind [lL,B7,Dz,n3,Dy,ae]
theorem ajb (hk:Fu k) {f r:LC} {i:Int} (hf:aq f) (x:aq r) (h1:f.length<2147483648) (h2:r.length<2147483648) (I:LC×Int->OS S):yR k f i r I=I (iH f i r):=by
 simp only [yR,ag hk,Hc hk (l:=[f,r]) (by grind) (by simp),aiL hk]
 have e:[f,r].all xW=(xW f&&xW r):=by simp
 unfold iH
 by_cases ha:(xW f&&xW r)=true
 ·rw [e,if_pos ha,ha,Bool.true_and]
  rw [show ((0:Int)==0)=true from rfl,va,n3]
  cases hd:lL i with
  |true=>
   rw [if_pos rfl,if_pos rfl]
   rw [show ((0:Int)==0)=true from rfl,va,n3]
   simp only [tK,DO,HO]
   have q:=(L6 x).1 (by grind)
   exact aeT hk I q hf h1 f [] k [] rfl (by omega) rA
  |false=>
   rfl
 simp_all [if_neg,ae]
theorem agr {m n b:Nat}:(LR m n b).1<16777216:=by
 have h1:m&&&xB<16777216:=Nat.lt_of_le_of_lt Nat.and_le_right (by decide)
 have h2:gO m n<=m&&&xB:=Nat.and_le_left
 unfold LR
 split
 ·omega
 ·split
  ·simp
  ·split
   ·simp
   ·exact Nat.or_lt_two_pow (n:=24) (by omega) (by omega)
theorem LK (s i b:Int):0<=(Db s i b).1/\(Db s i b).1<16777216:=by
 grind [Db,agr]
theorem LJ (c:Cl) (i b:Int):RC (dw c i b).1:=by
 unfold dw
 split
 ·split
  ·split
   ·exact ⟨LK _ _ _,LK _ _ _⟩
   ·exact oA
  ·exact oA
 ·exact oA
def dK (i b:Int) (h:LC) (c:Cl):LC×Int:=(h++[(dw c i b).1],(dw c i b).2)
def td (f:LC) (i b:Int):LC×Int:=if xW f then if (xJ (dK i b) [] f).2=0 then bp (xJ (dK i b) [] f).1 else ([],(xJ (dK i b) [] f).2) else ([],2)
theorem KH {i b:Int}: ∀ {r h:LC},aq h->aq (xJ (dK i b) h r).1/\(xJ (dK i b) h r).1.length<=h.length+r.length:=by
 intro r
 induction r with
 |nil=>intro h q;exact ⟨q,by show h.length<=_;omega⟩
 |cons c r x=>
  intro h q
  unfold xJ
  split
  ·have:=x (h:=(dK i b h c).1) (MY q fun d hd=>by simp at hd;subst hd;exact (LJ c i b).ok)
   grind [dK]
  ·exact ⟨fun d hd=>(by cases hd),by simp⟩
theorem aeR (hk:Fu k) (I:LC×Int->OS S) {i b:Int} (B:aG i) (hb:aG b) {l:LC} (hl:aq l) (hlen:l.length<2147483648):
  ∀ (r p:LC) (m:Nat) (h:LC),l=p++r->r.length<m->h.length+r.length<4294967296->qf k I i b l m h (p.length:Int)=I (xJ (dK i b) h r):=by
 intro r
 induction r with
 |nil=>
  intro p m h e q A
  obtain ⟨m,rfl,z⟩:=py q
  simp only [qf,o',xw e,n3];rfl
 |cons x r M=>
  intro p m h e q A
  obtain ⟨m,rfl,z⟩:=py q
  obtain ⟨E,F,J,O⟩:=qH e (by omega)
  have L:aX x:=hl x (by grind)
  simp only [uN] at A
  simp only [qf,o',E,ae,F,ql,ag hk,DN,ai4 hk L B hb,bG,J]
  grind [J5,n3,xJ,dK,ae]
theorem vX (hk:Fu k) {f:LC} {i b:Int} (hf:aq f) (hlen:f.length<1073741824) (z:aG i) (hb:aG b) (I:LC×Int->OS S):jV k f i b I=I (td f i b):=by
 have x:=KH (i:=i) (b:=b) (r:=f) (h:=[]) (fun d hd=>by cases hd)
 simp only [List.length_nil] at x
 have q: ∀ (g:LC×Int->OS S),yT k f [] i b g=g (xJ (dK i b) [] f):=fun g=>by
  simp only [yT,HQ]
  exact aeR hk g z hb hf (by omega) f [] k [] rfl (by omega) (by grind)
 simp only [jV,ag hk,Hc hk (l:=[f]) (by grind) (by simp),tK,q,kX hk x.1 (show _<2147483648 by omega)]
 grind [td,n3,decide_eq_false,ae]
theorem kQ {f:LC} {i b:Int} (h:(td f i b).2=0):RF (td f i b).1:=by
 unfold td at h ⊢
 split
 ·next q=>
  rw [if_pos q] at h
  split
  ·next x=>
   rw [if_pos x] at h
   exact qX (KH fun d hd=>by cases hd).1 h
  grind
 grind
theorem apW {f:LC} {i b:Int} (h:(td f i b).2≠0):(td f i b).1=[]:=by
 grind [td,agf]
end
end Go.Proofs.YtfffkmcpnggkdaaGreatDoor
