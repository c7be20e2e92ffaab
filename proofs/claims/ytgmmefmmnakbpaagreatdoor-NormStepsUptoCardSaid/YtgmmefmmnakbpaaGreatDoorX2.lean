/- Part 2 of a proof: the sources, with their names and remarks, lie in wip/. -/
import Derived.Test.YtgmmefmmnakbpaaGreatDoorX1
import Derived.Test.YtgmmefmmnakbpaaGreatDoorProg
import Derived.KernelRfl
open Bool renaming and_eq_true→anZ,not_false→aqD,not_true→aq6
open ByteArray renaming empty→alH
open Go.IntKind renaming wrap→su
open Int renaming toNat→arM,toNat_natCast→asG
open List renaming all_eq_true→ars,append_nil→arE,length_cons→aq5,mem_append→atc,mem_cons→arH,mem_map→arR,mem_of_getElem?→art,nil_append→as2,range→arU
open Nat renaming beq→ar3,le_trans→aru
open Option renaming bind→asP,bind_some→sf
set_option linter.unusedVariables false
set_option linter.unusedSimpArgs false
namespace Go.Proofs.YtgmmefmmnakbpaaGreatDoor.PI
open Go
section
variable {U:Uni} {V:Env U} {P:Program} {X:Link V P}
def Ctx.refix (c:Ctx) (μ:Nat->Option Nat) (L:List Nat) (j:c.nt<=1000000) (q: ∀id∈L,1000000<=id):Ctx:=
 {c with
  fix:=fun id=>if id∈L then μ id else c.fix id
  low:=fun id k h=>by
   split at h
   ·grind
   ·exact c.low id k h}
theorem Sim.refix {c:Ctx} {tm:Array Value} {w:World} {σ:St U} {g:Gh U} {D:Nat->Option Nat} (h:Sim X c tm w σ g D) {L:List Nat} {j:c.nt<=1000000} {x: ∀id∈L,1000000<=id}:
  Sim X (c.refix g.μ L j x) tm w σ g D where
 nt:=h.nt
 regs:=h.regs
 boxes:=h.boxes
 dom:=h.dom
 inj:=h.inj
 new:=h.new
 objs:=h.objs
 nobj:=h.nobj
 dinj:=h.dinj
 dnew:=h.dnew
 dbox:=h.dbox
 ext:=h.ext
 gl:=h.gl
 fix:=fun id k hk=>by
  simp only [Ctx.refix]
  by_cases q:id∈L
  ·grind
  ·rw [if_neg q];exact h.fix id k hk
theorem CtxOf.refix {c:Ctx} {tm:Array Value} {w:World} {σ:St U} {g:Gh U} {D:Nat->Option Nat} (h:Sim X c tm w σ g D) {L:List Nat} {x:c.nt<=1000000} {A: ∀id∈L,1000000<=id} (q: ∀id∈L,∃b,g.μ id=some b)
  {w0:World} {N0:aN} {n m:Nat} {ν:Nat->Nat} {δ:Nat->Option Nat} {ο:Nat->Array Value} (hc:CtxOf c w0 N0 n m ν δ ο):CtxOf (c.refix g.μ L x A) w0 N0 n m ν δ ο where
 cw:=hc.cw
 cN:=hc.cN
 bl:=hc.bl
 fix i z:=by
  simp only [Ctx.refix]
  by_cases j:df i∈L
  ·rw [if_pos j]
   obtain ⟨b,hb⟩:=q _ j
   rcases h.fix _ _ hb with h1|⟨h1,_⟩
   ·rw [hb,<-h1];exact hc.fix i z
   ·rw [hc.fix i z] at h1;cases h1
  ·rw [if_neg j];exact hc.fix i z
 other id k hk:=by
  simp only [Ctx.refix] at hk
  by_cases j:id∈L
  ·rw [if_pos j] at hk
   rcases h.fix _ _ hk with h1|⟨_,h1⟩
   ·exact hc.other id k h1
   ·rw [hc.cw] at h1;omega
  ·rw [if_neg j] at hk;exact hc.other id k hk
 bnd:=hc.bnd
 oo:=hc.oo
def Ca (q:Ctx) (caps:List (PV U)) (us:Array Value):Prop:=us.size=caps.length/\ ∀ (j:Nat) p,caps[j]? =some p-> ∃id off b,p= .ptr id off/\q.fix id=some b/\us.getD j undef= .pointer (some ⟨b,off,none⟩)
def Cc (X:Link V P) (S:Side U) (code:Code) (σ:St U) (h:FuncId) (caps:List (PV U)) (e:Ex U) (τ:St U):Prop:=
 ∀ (c:Ctx),PinOK S c->c.nt=S.nt-> ∀ (a:Act) (w:World) (g:Gh U) (D:Nat->Option Nat) (Q:Exit->Act->World->Prop),Sim X c a.tmps w σ g D->a.defers=[]->
  (∀ (us:Array Value) (j:Ctx),(∀w0 N0 n m ν δ ο,CtxOf c w0 N0 n m ν δ ο->CtxOf j w0 N0 n m ν δ ο)->j.nt=c.nt->Ca j caps us->Lands X j [{target:= .fn (.func h) us,args:= #[]}] e τ Q)->code.wp P Q a w
theorem aaj {l:List Oper} {o:Oper} {n:Tmp} (h:D4 l=some (o,n)): ∃q cl,l=[o,q]/\o.dst=some n/\o.guard=none/\q.dst=none/\q.op= .defer cl/\q.guard=none/\cl.callee= .value (.tmp n)/\cl.args= #[]:=by
 unfold D4 at h
 split at h
 case h_2=>cases h
 rename_i z q
 split at h
 case h_2=>cases h
 rename_i m cl h1 h2 A B E
 split at h
 case h_2=>cases h
 rename_i j x
 cases hb:(ar3 m j&&cl.args.isEmpty)<;>simp_all
theorem aiy (hm:P.follows .mixedOrders=true) (hI:lf X) {S:Side U} (hS:S.rcv=none) (c9:S.nt<=1000000) {R:Type} {C:Oracle U R} (hC:C.Tells (ci X)) {ann:Nat->Option Ann} {fuel:Nat}:
  ∀ (code:Code) {σ:St U} {A:Ex U->St U->Option R} {E:FuncId->List (PV U)->Ex U->St U->Option R} {x:R},oD V S C ann fuel code σ A E=some x->
   (∃e τ,e≠ .normal/\A e τ=some x/\ ∀c,PinOK S c->c.nt=S.nt->wE X c none code σ e τ)\/
   (∃h caps e τ,E h caps e τ=some x/\Cc X S code σ h caps e τ):=by
 intro code
 induction code with
 |seq a b b1 b2=>
  intro σ A E x h
  have step:run V S C ann fuel a σ (fun| .normal,σ'=>oD V S C ann fuel b σ' A E|e,σ'=>A e σ')=some x->
    (∃e τ,e≠ .normal/\A e τ=some x/\ ∀c,PinOK S c->c.nt=S.nt->wE X c none (.seq a b) σ e τ)\/
    (∃h caps e τ,E h caps e τ=some x/\Cc X S (.seq a b) σ h caps e τ):=by
   intro h
   obtain ⟨e,τ,z,hk⟩:=Bv (ci X) V S ann hC fuel a h
   have early:e≠ .normal->A e τ=some x->_:=fun he hk=>(.inl ⟨e,τ,he,hk,fun c hP B=>oX hm (oi hI hS hP) B (.seqE a b _ _ _ z he)⟩:
    (∃e τ,e≠ .normal/\A e τ=some x/\ ∀c,PinOK S c->c.nt=S.nt->wE X c none (.seq a b) σ e τ)\/(∃h caps e τ,E h caps e τ=some x/\Cc X S (.seq a b) σ h caps e τ))
   cases e with
   |normal=>
    rcases b2 hk with ⟨e',τ',b3,T,hB⟩|⟨hh,caps,e',τ',T,hB⟩
    ·exact .inl ⟨e',τ',b3,T,fun c hP B a' w g D Q hs hl=>wp_seq (oX hm (oi hI hS hP) B z a' w g D _ hs fun a2 W g2 D2 Y I=>hB c hP B a2 W g2 D2 Q I (by grind))⟩
    ·exact .inr ⟨hh,caps,e',τ',T,fun c hP B a' w g D Q hs hd hl=>wp_seq (oX hm (oi hI hS hP) B z a' w g D _ hs fun a2 W g2 D2 Y I=>hB c hP B a2 W g2 D2 Q I (Y.trans hd) hl)⟩
   |exit id=>grind
   |ret=>grind
   |panic v=>grind
  clear b1
  unfold oD at h
  split at h
  case h_2=>grind
  rename_i id ops draw
  split at h
  case h_2=>grind
  rename_i o n a7
  obtain ⟨q,cl,J,dn,b4,a8,bc,ad,ds,b5⟩:=aaj a7
  cases hc:(!draw&&bq S.nt o) with
  |false=>grind
  |true=>
  rw [hc] at h
  simp only [cond_true] at h
  simp only [anZ,Bool.not_eq_true'] at hc
  obtain ⟨ao,dx⟩:=hc
  subst ao
  obtain ⟨r,b6,τ,gp,bf,ht,hk⟩:=gx hC _ h (St.eqv.refl σ)
  cases r with
  |raise v=>cases hk
  |out o=>cases hk
  |done=>
  simp only at hk
  split at hk
  case h_2=>cases hk
  rename_i hh caps M
  cases hp:caps.all PV.pinned with
  |false=>grind
  |true=>
  rw [hp] at hk
  simp only [cond_true] at hk
  obtain ⟨e,ch,z,bg⟩:=Bv (ci X) V {S with pin:=fun _=>false} ann hC fuel b hk
  refine .inr ⟨hh,caps,e,ch,bg,fun c hP B a w g D Q hs dd hl=>wp_seq (wp_region ?_)⟩
  have cu:ops.size=2:=by have:=congrArg List.length J;omega
  have h0:ops[0]? =some o:=by rw [<-Array.getElem?_toList,J];rfl
  have h1:ops[1]? =some q:=by rw [<-Array.getElem?_toList,J];rfl
  rw [cu,show arU 2=[0,1] from rfl]
  simp only [wpOps,h0,h1]
  rw [if_pos (by simp [Region.wanted,b4])]
  refine .inl (oi hI hS hP o a w σ g D .done b6 [] gp _ _ (by grind) hs bf ⟨fun _ a2 W g2 D2 Y I=> ?_,fun v hv=>by cases hv⟩)
  rw [if_pos (by simp [Region.wanted,ad])]
  refine .inl ?_
  have ax:=I.eqv ht
  have hR:=ax.regs n
  rw [M] at hR
  generalize cy:a2.tmps.getD n undef=ev at hR
  cases hR with
  |func _ _ _ vs us dy bh c5 az=>
  have bn:vs= #[]:=by
   grind
  subst bn
  obtain ⟨qd,qo,qt,qp,qa,qg⟩:=q
  simp only at a8 bc ad
  subst a8;subst bc;subst ad
  have bt:(execOp a2.eval ⟨none,.defer cl,qt,qp,qa,none⟩).run P W= .ok (.defer {target:= .fn (.func hh) us,args:= #[]}) W:=by
   have dh:a2.eval (.tmp n)= .func (.func hh) #[] us:=cy
   simp_all [execOp,resolve,Deferred.ofValue]
  unfold Oper.wp
  rw [bt,Oper.upon_defer]
  have L: ∀id∈PV.idsL caps,1000000<=id/\ ∃b,g2.μ id=some b:=by
   intro id F
   obtain ⟨p,bz,b0⟩: ∃p∈caps,id∈p.ids:=by
    clear hl bg z hk c5 az bh M hp h step
    induction caps<;>grind [PV.idsL]
   have a6:=ars.1 hp p bz
   obtain ⟨j,hj⟩:=List.mem_iff_getElem?.1 bz
   have hr:=az j p hj
   cases p with
   |ptr id' off=>
    simp only [PV.ids,List.mem_singleton] at b0
    subst b0
    refine ⟨by simp_all [PV.pinned], ?_⟩
    generalize us.getD j undef=uv at hr
    cases hr<;>grind
   |_=>cases a6
  have O:c.nt<=1000000:=by omega
  refine oX (S:={S with pin:=fun _=>false}) hm (oi hI hS fun d hd=>by cases hd) (c:=c.refix g2.μ (PV.idsL caps) O fun id F=>(L id F).1) B z _ W g2 D2 Q ax.refix ?_
  have ea:=hl us (c.refix g2.μ (PV.idsL caps) O fun id F=>(L id F).1) (fun w0 N0 n m ν δ ο hc=>CtxOf.refix ax (fun id F=>(L id F).2) hc) rfl ⟨bh,fun j p hj=> ?_⟩
  ·grind [Act.put]
  ·have a6:=ars.1 hp p (art hj)
   have hr:=az j p hj
   cases p with
   |ptr id off=>
    have ec:id∈PV.idsL caps:=fj hj id (by simp [PV.ids])
    generalize us.getD j undef=uv at hr
    cases hr<;>grind [Ctx.refix]
   |_=>cases a6
 |_=>intro σ A E x h;cases h
end
section
variable {U:Uni} {V:Env U} {P:Program} {X:Link V P}
theorem Fe {fn:Func} {w0:World} {N0:aN} {n m:Nat} {ν:Nat->Nat} {δ:Nat->Option Nat} {M:Ctx} {ο:Nat->Array Value} (hc:CtxOf M w0 N0 n m ν δ ο) (O: ∀j b,δ j=some b->j<m) {v:PV U} {u u':FrameMode} (hv:RcvOK v u u')
  {E:FuncId} {caps:List (PV U)} {us:Array Value} (T:Ca M caps us) {τ W:St U} {r:MR U} {Y:St U} {gp a7:List Loc} {K:cj U} {keep:Bool} {hand:List Bool} {out:Out U} {a8:St U}
  (ad:(iq (PV.idsL caps) fun _=>iV (fun _=>0) (fun _=>[]) [] none (.func E [] caps) []).Rel (jS X (jM P u u')) τ [] r Y gp) (hr:r= .done) (ht:Y.eqv W) (ao:(jC V keep hand fn.results.toList n).Rel K W [] (.out out) a8 a7)
  {a:Act} {w:World} {g:Gh U} {D:Nat->Option Nat} (hs:Sim X M a.tmps w τ g D):
  Leaves P fn a.tmps (Ret X w0 N0 ν δ ο n m out) [{target:= .fn (.func E) us,args:= #[]}] u w:=by
 obtain ⟨bs,bz,F,I,bc⟩:=EB _ ad
 have hR:Rep X w (M.N g D) g (.func (.func E) #[] us) (.func E [] caps):=by
  refine .func E [] caps #[] us rfl T.1 (by simp) fun j p hp=> ?_
  obtain ⟨id,off,b,rfl,B,bf⟩:=T.2 j p hp
  rw [bf]
  refine .ptr id off b ?_
  have ax:id∈PV.idsL caps:=fj hp id (by simp [PV.ids])
  rw [<-I] at ax
  obtain ⟨x,hx,rfl⟩:=arR.1 ax
  obtain ⟨k,hk,_⟩:=hs.boxes x.1 x.2 (bc x hx)
  rcases hs.fix _ _ hk with h1|⟨h1,_⟩
  ·rw [B] at h1;injection h1 with h1;rw [h1];exact hk
  ·rw [B] at h1;cases h1
 obtain ⟨f,a0s,b0,bg,⟨b1,bh,q,z⟩,J⟩:=Jv (X:=X) (c:=M) (a:=a) (dst:=none) (o:=⟨none,.move (.const undef),0, "",#[],none⟩) (CP:=jM P u u') (xs:= #[])
  (next:=fun a2 L=>Leaves P fn a2.tmps (Ret X w0 N0 ν δ ο n m out) [] .returning L) (Q:=fun _ _ _=>False)
  (fun {f vs w R R'} h hm=>CallsD.mono h fun e u2 L ⟨h1,h2⟩=>⟨h1,hm e L h2⟩) hs hR rfl (by simp) rfl rfl F
  ⟨fun _ a2 L g2 D2 _ bn=>by
   obtain ⟨v,h1,h2⟩:=rz hc O (bn.eqv ht) ao
   exact ⟨v,h1,h2⟩,fun v hv=>by rw [hr] at hv;cases hv⟩
 injection bg with e1 e2 e3
 injection e1 with e1
 subst e1;subst e2;subst e3
 have bt:u≠ .run:=by cases hv<;>simp
 refine leaves_cons bt (f:=E) (args:= #[]++us) (by simp only [invoke];exact QP bh q z _ w) ?_
 have A:CallsD P E (#[]++us) u w fun e u2 w'=>u2=u'/\(match e,w' with
    | .returned v,az=>Leaves P fn (a.put none v).tmps (Ret X w0 N0 ν δ ο n m out) [] .returning az
    | .panicked chain,az=>False
    | .outgrown,_=>LetsOut (fun _ _ _=>False)):=by
  have:=J
  simp only [Array.append_empty] at this
  exact this.mono fun e u2 L ⟨h1,h2⟩=>⟨h1,by cases e<;>exact h2⟩
 refine A.mono fun e u2 L ⟨h1,h2⟩=> ?_
 subst h1
 cases e with
 |returned rv=>
  simp only [Act.put] at h2
  have a6:settle u2= .returning:=by cases hv<;>rfl
  simp only [a6]
  exact h2
 |panicked chain=>exact h2.elim
 |outgrown=>obtain ⟨_,_,h⟩:=h2;exact h.elim
theorem aix (hm:P.follows .mixedOrders=true) (hI:lf X) {S:Side U} (hS:S.rcv=none) {R:Type} {C:Oracle U R} (hC:C.Tells (ci X)) {Cd:PV U->Oracle U R} (a6: ∀v u u',RcvOK v u u'->(Cd v).Tells (jS X (jM P u u')))
  {f:FuncId} {fn:Func} (hf:P.funcs[f]? =some fn)
  (O:(fn.name== "runtime.NumGoroutine")=false) (z:fn.body.isNone=false) (ao:fn.ntmps=S.nt) (B:S.nt<=1000000) {args:List (PV U)} {boxes:List (Box U)} (T:args.length<=S.nt) (az:boxes.length<=1000000)
  {ann:Nat->Option Ann} {fuel:Nat} {keep:Bool} {hand:List Bool} {κ:Out U->Option R} {x:R} (h:G4 V S C ann fuel Cd keep hand fn args boxes κ=some x): ∃out,κ out=some x/\ci X f args boxes out:=by
 obtain ⟨code,F⟩: ∃code,fn.body=some code:=by
  cases hb:fn.body with
  |none=>rw [hb] at z;cases z
  |some code=>exact ⟨code,rfl⟩
 unfold G4 atJ at h
 rw [F] at h
 have Y: ∀ {w:World} {vs:Array Value} {N0:aN} {ν:Nat->Nat} {δ:Nat->Option Nat} {ο:Nat->Array Value} (j:Given X w vs N0 ν δ ο args boxes),PinOK S (gm w N0 boxes.length args.length ν δ ο j.oz S.nt B j.bnd X.gblk j.glob):=by
  intro w vs N0 ν δ ο j d _
  simp only [gm]
  rw [if_neg (by omega)]
 rcases aiy (X:=X) hm hI hS B hC code h with ⟨e,τ,he,hk,hB⟩|⟨hh,caps,e,τ,hk,hB⟩
 ·have key: ∀ {out:Out U},(∀ (w:World) (vs:Array Value) (N0:aN) (ν:Nat->Nat) (δ:Nat->Option Nat) (ο:Nat->Array Value) (j:Given X w vs N0 ν δ ο args boxes),
    Lands X (gm w N0 boxes.length args.length ν δ ο j.oz S.nt B j.bnd X.gblk j.glob) [] e τ (bodyPost P fn (Ret X w N0 ν δ ο boxes.length args.length out)))->ci X f args boxes out:=by
   intro out hl
   refine ⟨⟨fn,hf,O,z⟩,fun w vs N0 ν δ ο j=>Calls.mono (calls_of_wp (R:=Ret X w N0 ν δ ο boxes.length args.length out) hf F ?_) fun e w h=>Ret.full h⟩
   have hs:=BO j T B
   rw [ao]
   exact hB _ (Y j) rfl _ w _ _ _ hs (hl w vs N0 ν δ ο j)
  cases e with
  |exit id=>cases hk
  |normal=>exact absurd rfl he
  |ret=>
   obtain ⟨r,A,q,gp,hr,ht,E⟩:=gx hC _ hk (St.eqv.refl τ)
   cases r with
   |out o=>
    refine ⟨o,E,key fun w vs N0 ν δ ο j a' w' g' D' hd hs=> ?_⟩
    obtain ⟨v,h1,h2⟩:=rz lc j.dom hs hr
    exact ⟨hd,v,h1,h2⟩
   |_=>cases E
  |panic v=>
   obtain ⟨r,A,q,gp,hr,ht,E⟩:=gx hC _ hk (St.eqv.refl τ)
   cases r with
   |out o=>
    refine ⟨o,E,key fun w vs N0 ν δ ο j a' w' g' D' hd hs val W=> ?_⟩
    exact ⟨hd,F0 lc j.dom hs W hr⟩
   |_=>cases E
 ·have key: ∀ {out:Out U},(∀ (w:World) (vs:Array Value) (N0:aN) (ν:Nat->Nat) (δ:Nat->Option Nat) (ο:Nat->Array Value) (j:Given X w vs N0 ν δ ο args boxes) (us:Array Value) (c':Ctx),CtxOf c' w N0 boxes.length args.length ν δ ο->Ca c' caps us->
    Lands X c' [{target:= .fn (.func hh) us,args:= #[]}] e τ (bodyPostD P fn (Ret X w N0 ν δ ο boxes.length args.length out)))->ci X f args boxes out:=by
   intro out hl
   refine ⟨⟨fn,hf,O,z⟩,fun w vs N0 ν δ ο j=>Calls.mono (calls_of_wp_defers (R:=Ret X w N0 ν δ ο boxes.length args.length out) hf F ?_) fun e w h=>Ret.full h⟩
   have hs:=BO j T B
   rw [ao]
   exact hB _ (Y j) rfl _ w _ _ _ hs rfl fun us c' I _ J=>hl w vs N0 ν δ ο j us c' (I _ _ _ _ _ _ _ lc) J
  have fin: ∀ {v:PV U} {u u':FrameMode},RcvOK v u u'->(iq (PV.idsL caps) fun _=>iV (fun _=>0) (fun _=>[]) [] none (.func hh [] caps) []).cps (Cd v) τ [] (fun| .done,σ',_=>(jC V keep hand fn.results.toList boxes.length).cps C σ' [] (Go.Proofs.YtgmmefmmnakbpaaGreatDoor.PI.fin κ)|_,_,_=>none)=some x->
    ∃ (out:Out U) (r:MR U) (A q L:St U) (gp M:List Loc),κ out=some x/\(iq (PV.idsL caps) fun _=>iV (fun _=>0) (fun _=>[]) [] none (.func hh [] caps) []).Rel (jS X (jM P u u')) τ [] r A gp/\r= .done/\A.eqv q/\(jC V keep hand fn.results.toList boxes.length).Rel (ci X) q [] (.out out) L M:=by
   intro v u u' hv hk
   obtain ⟨r,A,q,gp,hr,ht,ad⟩:=gx (a6 v u u' hv) _ hk (St.eqv.refl τ)
   cases r with
   |raise v=>cases ad
   |out o=>cases ad
   |done=>
    obtain ⟨r',L,a8,M,a7,bc,ax⟩:=gx hC _ ad (St.eqv.refl q)
    cases r' with
    |out o=>exact ⟨o,.done,A,q,L,gp,M,ax,hr,rfl,ht,a7⟩
    |_=>cases ax
  cases e with
  |exit id=>cases hk
  |normal=>
   obtain ⟨out,r,A,q,L,gp,M,h1,h2,h3,h4,h5⟩:=fin .nil hk
   refine ⟨out,h1,key fun w vs N0 ν δ ο j us c' I J a' w' g' D' hd hs=> ?_⟩
   simp only [bodyPostD,hd]
   exact Fe I j.dom .nil J h2 h3 h4 h5 hs
  |ret=>
   obtain ⟨out,r,A,q,L,gp,M,h1,h2,h3,h4,h5⟩:=fin .nil hk
   refine ⟨out,h1,key fun w vs N0 ν δ ο j us c' I J a' w' g' D' hd hs=> ?_⟩
   simp only [bodyPostD,hd]
   exact Fe I j.dom .nil J h2 h3 h4 h5 hs
  |panic v=>
   simp only [kD] at hk
   split at hk
   case h_2=>cases hk
   rename_i t k n'
   obtain ⟨out,r,A,q,L,gp,M,h1,h2,h3,h4,h5⟩:=fin (.err t k n') hk
   refine ⟨out,h1,key fun w vs N0 ν δ ο j us c' I J a' w' g' D' hd hs val W=> ?_⟩
   simp only [bodyPostD,hd]
   cases W with
   |iface _ u _ hu=>cases hu;exact Fe I j.dom (.err t k n') J h2 h3 h4 h5 hs
end
end Go.Proofs.YtgmmefmmnakbpaaGreatDoor.PI
namespace Go.Proofs.YtgmmefmmnakbpaaGreatDoor
open Go PI
set_option maxRecDepth 100000
noncomputable section
noncomputable def uu:ET->TypeId
 | .C=>80
 | .T=>27
 | .B=>62
 | .I=>3
 | .F=>23
 | .D=>53
 | .G=>52
noncomputable def pQ:ET->Nat
 | .C=>2
 | .T=>6
 | .B=>2
 | .I=>1
 | .F=>1
 | .D=>7
 | .G=>7
noncomputable def zQ:ET->Nat
 | .C=>8
 | .T=>104
 | .B=>48
 | .I=>8
 | .F=>24
 | .D=>120
 | .G=>120
noncomputable def zY (e:ET):Value:=((Tryz.prog.info? (uu e)).bind (·.zero)).getD undef
noncomputable def Ep (e:ET):Bool:=match Tryz.prog.info? (uu e) with
 |some i=>i.zero.isSome&&(ar3 i.size (pQ e)&&ar3 i.bytes (zQ e))&&ar3 (zY e).cells.size (pQ e)
 | .none=>false
theorem KA (e:ET):Ep e=true:=by cases e<;>kernel_rfl
theorem T7: ∀t r,wy t=some r->I9 Tryz.prog uu t r=true:=by
 intro t r h
 unfold wy at h
 split at h<;>first|(injection h with h;subst h;kernel_rfl)|cases h
theorem aeb: ∀t r e,wy t=some r->r.keys=some e->e= .C:=by
 intro t r e h hk
 unfold wy at h
 split at h<;>first|(injection h with h;subst h;cases hk;done)|(injection h with h;subst h;injection hk with hk;exact hk.symm)|cases h
theorem akU: ∀e cs y,T3 e cs=some y->cs.length=pQ e/\cs.all PV.isCell=true/\ ∀ (k:Nat) p,cs[k]? =some p-> ∃q,(asF e y)[k]? =some q/\p.less q:=by
 have hC: ∀ {p:PU} {l},oO p=some l-> ∃o,p= .sl (U:=UU) ET.C l o:=by
  intro p l h;unfold oO at h;split at h<;>first|(injection h with h;subst h;exact ⟨_,rfl⟩)|cases h
 have hT: ∀ {p:PU} {l},sn p=some l-> ∃o,p= .sl (U:=UU) ET.T l o:=by
  intro p l h;unfold sn at h;split at h<;>first|(injection h with h;subst h;exact ⟨_,rfl⟩)|cases h
 have hB: ∀ {p:PU} {l},wJ p=some l-> ∃o,p= .sl (U:=UU) ET.B l o:=by
  intro p l h;unfold wJ at h;split at h<;>first|(injection h with h;subst h;exact ⟨_,rfl⟩)|cases h
 intro e cs y h
 cases e
 ·have h:I4 cs=some y:=h
  unfold I4 at h
  split at h
  case h_2=>cases h
  injection h with h;subst h
  refine ⟨rfl,rfl,fun k p hp=> ?_⟩
  match k,hp with
  |0,hp=>exact ⟨_,rfl,.inl (Option.some.inj hp).symm⟩
  |1,hp=>exact ⟨_,rfl,.inl (Option.some.inj hp).symm⟩
  |k+2,hp=>simp at hp
 ·have h:I7 cs=some y:=h
  unfold I7 at h
  split at h
  case h_2=>cases h
  split at h
  case h_2=>cases h
  rename_i h1 h2 j
  injection h with h;subst h
  obtain ⟨x,rfl⟩:=hC h1;obtain ⟨z,rfl⟩:=hT h2;obtain ⟨A,rfl⟩:=hB j
  refine ⟨rfl,rfl,fun k p hp=> ?_⟩
  match k,hp with
  |0,hp=>exact ⟨_,rfl,.inl (Option.some.inj hp).symm⟩
  |1,hp=>exact ⟨_,rfl,.inl (Option.some.inj hp).symm⟩
  |2,hp=>exact ⟨_,rfl,.inl (Option.some.inj hp).symm⟩
  |3,hp=>exact ⟨_,rfl,.inr ⟨_,_,_,(Option.some.inj hp).symm,rfl⟩⟩
  |4,hp=>exact ⟨_,rfl,.inr ⟨_,_,_,(Option.some.inj hp).symm,rfl⟩⟩
  |5,hp=>exact ⟨_,rfl,.inr ⟨_,_,_,(Option.some.inj hp).symm,rfl⟩⟩
  |k+6,hp=>simp at hp
 ·have h:I3 cs=some y:=h
  unfold I3 at h
  split at h
  case h_2=>cases h
  split at h
  case h_2=>cases h
  rename_i h1 h2
  injection h with h;subst h
  obtain ⟨x,rfl⟩:=hC h1;obtain ⟨z,rfl⟩:=hT h2
  refine ⟨rfl,rfl,fun k p hp=> ?_⟩
  match k,hp with
  |0,hp=>exact ⟨_,rfl,.inr ⟨_,_,_,(Option.some.inj hp).symm,rfl⟩⟩
  |1,hp=>exact ⟨_,rfl,.inr ⟨_,_,_,(Option.some.inj hp).symm,rfl⟩⟩
  |k+2,hp=>simp at hp
 ·have h:I6 cs=some y:=h
  unfold I6 at h
  split at h
  case h_2=>cases h
  injection h with h;subst h
  refine ⟨rfl,rfl,fun k p hp=> ?_⟩
  match k,hp with
  |0,hp=>exact ⟨_,rfl,.inl (Option.some.inj hp).symm⟩
  |k+1,hp=>simp at hp
 ·have h:I5 cs=some y:=h
  unfold I5 at h
  split at h
  case h_2=>cases h
  obtain ⟨x,rfl⟩:=hC h
  refine ⟨rfl,rfl,fun k p hp=> ?_⟩
  match k,hp with
  |0,hp=>exact ⟨_,rfl,.inr ⟨_,_,_,(Option.some.inj hp).symm,rfl⟩⟩
  |k+1,hp=>simp at hp
 ·have h:rS cs=some y:=h
  unfold rS at h
  split at h
  case h_2=>cases h
  split at h
  case h_2=>cases h
  rename_i h1 h2 j
  injection h with h;subst h
  obtain ⟨x,rfl⟩:=hC h1;obtain ⟨z,rfl⟩:=hT h2;obtain ⟨A,rfl⟩:=hB j
  refine ⟨rfl,rfl,fun k p hp=> ?_⟩
  match k,hp with
  |0,hp=>exact ⟨_,rfl,.inl (Option.some.inj hp).symm⟩
  |1,hp=>exact ⟨_,rfl,.inl (Option.some.inj hp).symm⟩
  |2,hp=>exact ⟨_,rfl,.inl (Option.some.inj hp).symm⟩
  |3,hp=>exact ⟨_,rfl,.inl (Option.some.inj hp).symm⟩
  |4,hp=>exact ⟨_,rfl,.inr ⟨_,_,_,(Option.some.inj hp).symm,rfl⟩⟩
  |5,hp=>exact ⟨_,rfl,.inr ⟨_,_,_,(Option.some.inj hp).symm,rfl⟩⟩
  |6,hp=>exact ⟨_,rfl,.inr ⟨_,_,_,(Option.some.inj hp).symm,rfl⟩⟩
  |k+7,hp=>simp at hp
 ·have h:rS cs=some y:=h
  unfold rS at h
  split at h
  case h_2=>cases h
  split at h
  case h_2=>cases h
  rename_i h1 h2 j
  injection h with h;subst h
  obtain ⟨x,rfl⟩:=hC h1;obtain ⟨z,rfl⟩:=hT h2;obtain ⟨A,rfl⟩:=hB j
  refine ⟨rfl,rfl,fun k p hp=> ?_⟩
  match k,hp with
  |0,hp=>exact ⟨_,rfl,.inl (Option.some.inj hp).symm⟩
  |1,hp=>exact ⟨_,rfl,.inl (Option.some.inj hp).symm⟩
  |2,hp=>exact ⟨_,rfl,.inl (Option.some.inj hp).symm⟩
  |3,hp=>exact ⟨_,rfl,.inl (Option.some.inj hp).symm⟩
  |4,hp=>exact ⟨_,rfl,.inr ⟨_,_,_,(Option.some.inj hp).symm,rfl⟩⟩
  |5,hp=>exact ⟨_,rfl,.inr ⟨_,_,_,(Option.some.inj hp).symm,rfl⟩⟩
  |6,hp=>exact ⟨_,rfl,.inr ⟨_,_,_,(Option.some.inj hp).symm,rfl⟩⟩
  |k+7,hp=>simp at hp
theorem acB (e:ET): ∃i,Tryz.prog.info? (uu e)=some i/\i.zero=some (zY e)/\i.size=pQ e/\i.bytes=zQ e:=by
 have h:=KA e
 unfold Ep at h
 split at h
 ·rename_i i j
  simp only [anZ] at h
  obtain ⟨⟨h1,h2,q⟩,A⟩:=h
  refine ⟨i,j, ?_,by simpa using h2,by simpa using q⟩
  unfold zY
  rw [j]
  obtain ⟨z,x⟩:=Option.isSome_iff_exists.1 h1
  simp [x]
 ·cases h
noncomputable def LL (o:Obj):Link VV Tryz.prog where
 gblk:=[(0,o)]
 etid:=uu
 esize:=pQ
 ebytes:=zQ
 ezero:=zY
 einfo:=acB
 zsize:=fun e=>by
  have h:=KA e
  unfold Ep at h
  split at h
  ·simp only [anZ] at h
   exact by simpa using h.2
  ·cases h
 epos:=fun e=>by cases e<;>decide
 broom:=fun e n h=>by
  have h':n<=1099511627776:=h
  cases e<;>simp only [zQ,maxLen]<;>omega
 len:=fun e x=>by cases e<;>rfl
 small:=fun e=>by cases e<;>decide
 ecell':=fun e x=>by cases e<;>rfl
 toEl:=akU
 ty:=fun t r h=>T6 (T7 t r h)
 keyT:=fun t r e h hk=>by
  have he:=aeb t r e h hk
  subst he
  obtain ⟨fs,h1,h2,_,j,q⟩:=(T6 (T7 80 _ rfl)).isInts rfl
  exact ⟨⟨fs,h1,h2,j,q⟩,fun x y=>⟨_,by simp only [VV,asF,PV.eqvI];rfl⟩⟩
theorem Ax:Tryz.prog.follows .mixedOrders=true:=by kernel_rfl
theorem sw {A B:Out UU->Prop} (h: ∃out,A out/\B out): ∃out,B out/\A out:=by obtain ⟨o,a,b⟩:=h;exact ⟨o,b,a⟩
theorem ZM {S:Type} {b:Bool} {x y:Option S} {v:S} (h:(bif b then x else y)=some v):x=some v\/y=some v:=by
 cases b
 ·exact .inr h
 ·exact .inl h
end
end Go.Proofs.YtgmmefmmnakbpaaGreatDoor
namespace Go.Proofs.YtgmmefmmnakbpaaGreatDoor
open Go PI
def U32 (s:Int):Prop:=0<=s/\s<4294967296
theorem U32.nat {s:Int} (h:U32 s): ∃n:Nat,n<4294967296/\s=n:=⟨s.toNat,by have:=h.1;have:=h.2;omega,by have:=h.1;omega⟩
theorem avt {n:Nat} (h:n<4294967296):(BitVec.ofInt 32 (n:Int)).toNat=n:=by
 grind
theorem ld (n:Nat) (h:n<4294967296):su .u32 (n:Int)=n:=by
 grind [su,IntKind.bits,IntKind.signed]
theorem iR (n:Nat) (h:n<18446744073709551616):su .u64 (n:Int)=n:=by
 grind [su,IntKind.bits,IntKind.signed]
theorem alX {n:Int} (h1: -9223372036854775808<=n) (h2:n<9223372036854775808):su .i64 n=n:=by
 grind [su,IntKind.bits,IntKind.signed]
theorem aye {a b n:Nat} (h:a<2^n):a&&&b<2^n:=Nat.lt_of_le_of_lt Nat.and_le_left h
theorem lj {a b:Nat} (ha:a<4294967296) (hb:b<4294967296):bj .and .u32 (a:Int) (b:Int)=((a&&&b:Nat):Int):=by
 have h1:=avt ha;have h2:=avt hb
 simp only [bj]
 show su .u32 (((BitVec.ofInt 32 (a:Int))&&&(BitVec.ofInt 32 (b:Int))).toNat:Int)=_
 rw [BitVec.toNat_and,h1,h2]
 exact ld _ (aye (n:=32) ha)
theorem wK {a b:Nat} (ha:a<4294967296) (hb:b<4294967296):bj .or .u32 (a:Int) (b:Int)=((a|||b:Nat):Int):=by
 have h1:=avt ha;have h2:=avt hb
 simp only [bj]
 show su .u32 (((BitVec.ofInt 32 (a:Int))|||(BitVec.ofInt 32 (b:Int))).toNat:Int)=_
 rw [BitVec.toNat_or,h1,h2]
 exact ld _ (Nat.or_lt_two_pow (n:=32) ha hb)
def dL (a b:Nat):Nat:=a^^^(a&&&b)
theorem mm (a b i:Nat):(dL a b).testBit i=(a.testBit i&& !b.testBit i):=by
 grind [dL]
theorem vq {a b n:Nat} (h:a<2^n):dL a b<2^n:=Nat.xor_lt_two_pow h (aye h)
theorem C_ {a b:Nat} (ha:a<4294967296) (hb:b<4294967296):bj .andNot .u32 (a:Int) (b:Int)=((dL a b:Nat):Int):=by
 have h1:=avt ha;have h2:=avt hb
 simp only [bj]
 show su .u32 (((BitVec.ofInt 32 (a:Int))&&& ~~~(BitVec.ofInt 32 (b:Int))).toNat:Int)=_
 have e:((BitVec.ofInt 32 (a:Int))&&& ~~~(BitVec.ofInt 32 (b:Int))).toNat=dL a b:=by
  apply Nat.eq_of_testBit_eq
  intro i
  rw [mm,BitVec.toNat_and,Nat.testBit_and,h1]
  by_cases j:i<32
  ·grind
  ·have:a.testBit i=false:=Nat.testBit_lt_two_pow (Nat.lt_of_lt_of_le ha (by exact Nat.pow_le_pow_right (n:=2) (by decide) (show 32<=i by omega)))
   grind
 rw [e]
 exact ld _ (vq (n:=32) ha)
theorem aY {α:Type} (p:Prop) [Decidable p] (x y:α):ab (decide p) x y=if p then x else y:=by
 grind [ae,n3]
theorem cH {α:Type} (c:Bool) (x y:α):ab c x y=if c=true then x else y:=by
 grind [n3,ae]
abbrev Fu (k:Nat):Prop:=4294967296<=k
theorem ag {R S:Type} {k:Nat} (h:Fu k) (f:(R->OS S)->OS S) (g:R->OS S):aa k f g=f g:=ZV (by omega) f g
theorem J5 {S:Type} {n m:Nat} (h:n+m<=1099511627776) (f:Unit->OS S):asP (aw 1099511627776 n m) f=f ():=by
 grind [aw]
theorem apy {α:Type} {l p r:List α} {x:α} (h:l=p++x::r) (hl:l.length<4611686018427387904):
  decide ((p.length:Int)<(l.length:Int))=true/\af l (p.length:Int)=some x/\su .i64 ((p.length:Int)+1)=((p++[x]).length:Int)/\l=(p++[x])++r:=by
 subst h
 rw [List.length_append,aq5] at hl
 refine ⟨decide_eq_true (by grind), ?_, ?_,by simp⟩
 all_goals grind [af,su,IntKind.bits]
theorem akb {α:Type} {l p:List α} (h:l=p++[]):decide ((p.length:Int)<(l.length:Int))=false:=by
 grind
theorem amr {n m:Nat} (h:n<m): ∃q,m=q+1/\n<=q:=⟨m-1,by omega,by omega⟩
theorem fN {S:Type} (p:Prop) [Decidable p] (h:p) (f:Unit->OS S):asP (bR p) f=f ():=by simp [bR,h]
theorem pU {α:Type} (l:List α) (i:Nat):af l (i:Int)=l[i]? :=by rfl
end Go.Proofs.YtgmmefmmnakbpaaGreatDoor
namespace Go.Proofs.YtgmmefmmnakbpaaGreatDoor
open Go PI
set_option maxRecDepth 100000
noncomputable section
variable {S:Type}
def gI (k:Nat) (kind kid:Int) (I:Int×Int->OS S):OS S:=ab (kind==4) (ab (kid==1) (I (1,0)) (I (0,0))) (ab (kind==7) (ab (kid==1) (I (1,0)) (I (0,0))) (ab (kind==5) (ab (kid==0) (I (1,0)) (I (0,0))) (ab (kind==22) (ab (kid==0) (I (1,0)) (I (0,0))) (ab (kind==27) (ab (kid==0) (I (1,0)) (I (0,0))) (ab (kind==11) (ab (kid==0) (I (0,1)) (I (0,0))) (ab (kind==12) (ab (kid==0) (I (0,1)) (I (0,0))) (ab (kind==14) (ab (kid==0) (I (0,1)) (I (0,0))) (I (0,0)))))))))
abbrev du (S:Type):=Tm->Int->(Bool->OS S)->OS S
def uk (hd:du S) (k:Nat) (a_k:Tm) (p j c0:Int) (I:Bool->OS S):OS S:=hd (ac a_k) (su .i64 (c0-1)) fun r1=>I r1
def yi (hd:du S) (k:Nat) (I:Bool->OS S) (c0:Int) (t:Tm) (v42:Int) (x4:(Br Tm)) (j:Int) (q:Int->Int->OS S) (x:Int->OS S) (v49:Int):OS S:=ab (decide ((v49:Int)<(x4.kids.length:Int))) (asP (af x4.kids v49) fun x5=>aa k (uk hd k (ac x5) 0 j c0) fun z=>ab (!z) (I false) (x (su .i64 (v49+1)))) (q (su .i64 (v42+1)) j)
def anh (hd:du S) (k:Nat) (I:Bool->OS S) (q:Int->Int->OS S) (c0:Int) (t:Tm) (v42:Int) (x4:(Br Tm)) (j:Int):Nat->Int->OS S
 |0=>fun _=> .none
 |m+1=>fun v49=>yi hd k I c0 t v42 x4 j q (anh hd k I q c0 t v42 x4 j m) v49
def tp (hd:du S) (k:Nat) (I:Bool->OS S) (c0:Int) (t:Tm) (J2:Int->(Br Tm)->Int->Int->OS S) (q:Int->Int->OS S) (v42 j:Int):OS S:=ab (decide ((v42:Int)<(t.sys.length:Int))) (asP (af t.sys v42) fun x4=>J2 v42 x4 j 0) (I true)
def jp (hd:du S) (k:Nat) (I:Bool->OS S) (c0:Int) (t:Tm):Nat->Int->Int->OS S
 |0=>fun _ _=> .none
 |m+1=>fun v42 j=>tp hd k I c0 t (fun v42 x4 j v49=>anh hd k I (jp hd k I c0 t m) c0 t v42 x4 j k v49) (jp hd k I c0 t m) v42 j
def tn (hd:du S) (k:Nat) (I:Bool->OS S) (c0:Int) (t:Tm) (J1:Int->Int->OS S) (j:Int->OS S) (v17:Int):OS S:=ab (decide ((v17:Int)<(t.kids.length:Int))) (asP (af t.kids v17) fun x1=>aa k (gI k t.kind v17) fun q=>aa k (uk hd k (ac x1) q.1 q.2 c0) fun x=>ab (!x) (I false) (j (su .i64 (v17+1)))) (ab (t.kind==15) (J1 0 1) (J1 0 0))
def qS (hd:du S) (k:Nat) (I:Bool->OS S) (c0:Int) (t:Tm):Nat->Int->OS S
 |0=>fun _=> .none
 |m+1=>fun v17=>tn hd k I c0 t (fun v42 j=>jp hd k I c0 t k v42 j) (qS hd k I c0 t m) v17
def IV (hd:du S) (k:Nat) (I:Bool->OS S) (J0:Int->OS S) (t:Tm) (c0:Int):OS S:=J0 0
def DX (hd:du S) (k:Nat) (t:Tm) (c0:Int) (I:Bool->OS S):OS S:=IV hd k I (fun v17=>qS hd k I c0 t k v17) t c0
def TV (hd:du S) (k:Nat) (I:Bool->OS S) (t:Tm) (left:Int):OS S:=ab (decide ((left:Int)>0)) (aa k (DX hd k (ac t) left) fun r1=>I r1) (I false)
def jf:Nat->Tm->Int->(Bool->OS S)->OS S
 |0=>fun _ _ _=> .none
 |k+1=>fun t left I=>TV (jf k) k I t left
abbrev dt (S:Type):=Tm->Int->(Bool×Int->OS S)->OS S
def pB (hd:dt S) (k:Nat) (t:Tm) (c0:Int) (I:Bool×Int->OS S):OS S:=ab (decide ((su .i64 (c0-1):Int)>=0)) (hd (ac t) (su .i64 (c0-1)) fun r1=>I (r1.1,r1.2)) (I (false,su .i64 (c0-1)))
def ul (hd:dt S) (k:Nat) (a_k:Tm) (p j c1:Int) (I:Bool×Int->OS S):OS S:=aa k (pB hd k (ac a_k) c1) fun r1=>I (r1.1,r1.2)
def yg (hd:dt S) (k:Nat) (I:Bool×Int->OS S) (t:Tm) (v42:Int) (x4:(Br Tm)) (j:Int) (q:Int->Int->Int->OS S) (x:Int->Int->OS S) (e1_0'' v49:Int):OS S:=ab (decide ((v49:Int)<(x4.kids.length:Int))) (asP (af x4.kids v49) fun x5=>aa k (ul hd k (ac x5) 0 j e1_0'') fun z=>ab (!z.1) (I (false,z.2)) (x z.2 (su .i64 (v49+1)))) (q e1_0'' (su .i64 (v42+1)) j)
def kL (hd:dt S) (k:Nat) (I:Bool×Int->OS S) (q:Int->Int->Int->OS S) (t:Tm) (v42:Int) (x4:(Br Tm)) (j:Int):Nat->Int->Int->OS S
 |0=>fun _ _=> .none
 |m+1=>fun e1_0'' v49=>yg hd k I t v42 x4 j q (kL hd k I q t v42 x4 j m) e1_0'' v49
def tj (hd:dt S) (k:Nat) (I:Bool×Int->OS S) (t:Tm) (J2:Int->(Br Tm)->Int->Int->Int->OS S) (q:Int->Int->Int->OS S) (e1_0' v42 j:Int):OS S:=ab (decide ((v42:Int)<(t.sys.length:Int))) (asP (af t.sys v42) fun x4=>J2 v42 x4 j e1_0' 0) (I (true,e1_0'))
def atY (hd:dt S) (k:Nat) (I:Bool×Int->OS S) (t:Tm):Nat->Int->Int->Int->OS S
 |0=>fun _ _ _=> .none
 |m+1=>fun e1_0' v42 j=>tj hd k I t (fun v42 x4 j e1_0'' v49=>kL hd k I (atY hd k I t m) t v42 x4 j k e1_0'' v49) (atY hd k I t m) e1_0' v42 j
def ti (hd:dt S) (k:Nat) (I:Bool×Int->OS S) (t:Tm) (J1:Int->Int->Int->OS S) (j:Int->Int->OS S) (arm v17:Int):OS S:=ab (decide ((v17:Int)<(t.kids.length:Int))) (asP (af t.kids v17) fun x1=>aa k (gI k t.kind v17) fun x=>aa k (ul hd k (ac x1) x.1 x.2 arm) fun q=>ab (!q.1) (I (false,q.2)) (j q.2 (su .i64 (v17+1)))) (ab (t.kind==15) (J1 arm 0 1) (J1 arm 0 0))
def nY (hd:dt S) (k:Nat) (I:Bool×Int->OS S) (t:Tm):Nat->Int->Int->OS S
 |0=>fun _ _=> .none
 |m+1=>fun arm v17=>ti hd k I t (fun e1_0' v42 j=>atY hd k I t k e1_0' v42 j) (nY hd k I t m) arm v17
def IT (hd:dt S) (k:Nat) (I:Bool×Int->OS S) (J0:Int->Int->OS S) (t:Tm) (c1:Int):OS S:=J0 c1 0
def atf:Nat->Tm->Int->(Bool×Int->OS S)->OS S
 |0=>fun _ _ _=> .none
 |k+1=>fun t c1 I=>IT (atf k) k I (fun arm v17=>nY (atf k) k I t k arm v17) t c1
def zE (k:Nat) (t:Tm) (most:Int) (I:Bool->OS S):OS S:=aa k (pB (atf k) k (ac t) most) fun r1=>I r1.1
def zD (k:Nat) (t:Tm) (I:Int->OS S):OS S:=jf k (ac t) 200 fun r1=>ab (!r1) (I 62) (aa k (zE k (ac t) 20000) fun j=>ab (!j) (I 221) (I 0))
def zA (k:Nat) (kind:Int) (I:Int->OS S):OS S:=ab (kind==1) (I 0) (ab (kind==2) (I 0) (ab (kind==3) (I 0) (ab (kind==19) (I 0) (ab (kind==20) (I 0) (ab (kind==24) (I 0) (ab (kind==25) (I 0) (ab (kind==21) (I 0) (ab (kind==5) (I 1) (ab (kind==9) (I 1) (ab (kind==10) (I 1) (ab (kind==23) (I 1) (ab (kind==12) (I 1) (ab (kind==16) (I 1) (ab (kind==17) (I 1) (ab (kind==18) (I 1) (ab (kind==26) (I 1) (ab (kind==4) (I 2) (ab (kind==7) (I 2) (ab (kind==6) (I 2) (ab (kind==8) (I 2) (ab (kind==14) (I 2) (ab (kind==15) (I 2) (ab (kind==28) (I 2) (ab (kind==11) (I 3) (ab (kind==13) (I 3) (ab (kind==22) (I 4) (ab (kind==27) (I 5) (I (-1)))))))))))))))))))))))))))))
def lJ (k:Nat) (kind:Int) (I:Int->OS S):OS S:=ab (kind==15) (I 1) (ab (kind==17) (I 1) (ab (kind==18) (I 1) (ab (kind==16) (I 2) (I 0))))
def Dk (k:Nat) (I:Bool->OS S) (s:BA) (x:Int) (x1:UInt8) (q:Int->OS S) (j:Bool):OS S:=ab (!j) (ab (x==0) (I false) (ab (decide (((x1.toNat:Int):Int)<48)) (I false) (ab (decide (((x1.toNat:Int):Int)>57)) (I false) (q (su .i64 (x+1)))))) (q (su .i64 (x+1)))
def Aq (k:Nat) (I:Bool->OS S) (q:Int->OS S) (s:BA) (x:Int) (x1:UInt8):Nat->Bool->OS S
 |0=>fun _=> .none
 |_+1=>fun j=>Dk k I s x x1 q j
def tv (k:Nat) (I:Bool->OS S) (s:BA) (J1:Int->UInt8->Bool->OS S) (q:Int->OS S) (j:Int):OS S:=ab (decide ((j:Int)<(s.size:Int))) (asP (af s.data.toList j) fun x1=>ab (decide (((x1.toNat:Int):Int)>=97)) (ab (decide (((x1.toNat:Int):Int)<=122)) (J1 j x1 true) (ab (decide (((x1.toNat:Int):Int)>=65)) (ab (decide (((x1.toNat:Int):Int)<=90)) (J1 j x1 true) (J1 j x1 ((x1.toNat:Int)==95))) (J1 j x1 ((x1.toNat:Int)==95)))) (ab (decide (((x1.toNat:Int):Int)>=65)) (ab (decide (((x1.toNat:Int):Int)<=90)) (J1 j x1 true) (J1 j x1 ((x1.toNat:Int)==95))) (J1 j x1 ((x1.toNat:Int)==95)))) (I (!(s==alH)))
def n7 (k:Nat) (I:Bool->OS S) (s:BA):Nat->Int->OS S
 |0=>fun _=> .none
 |m+1=>fun q=>tv k I s (fun q x1 j=>Aq k I (n7 k I s m) s q x1 k j) (n7 k I s m) q
def IY (k:Nat) (I:Bool->OS S) (J0:Int->OS S) (s:BA):OS S:=J0 0
def zC (k:Nat) (s:BA) (I:Bool->OS S):OS S:=IY k I (fun j=>n7 k I s k j) s
def pm (k:Nat) (s:Int) (I:Bool->OS S):OS S:=I ((bj .andNot .u32 s 16777215)==0)
def tC (k:Nat) (c:Cl) (I:Bool->OS S):OS S:=aa k (pm k c.pos) fun r1=>ab (r1) (aa k (pm k c.neg) fun j=>I j) (I false)
def pb (k:Nat) (a b:Cl) (I:Cl->OS S):OS S:=I (Cl.mk (bj .or .u32 a.pos b.pos) (bj .or .u32 a.neg b.neg))
def yA (k:Nat) (a b:Cl) (I:Bool->OS S):OS S:=aa k (pb k a b) fun r1=>I ((r1.pos==a.pos)&&((r1.neg==a.neg)&&true))
def yC (k:Nat) (d c0:Cl) (I:Bool->OS S):OS S:=ab (!((c0.pos==d.pos)&&((c0.neg==d.neg)&&true))) (aa k (yA k c0 d) fun r1=>I r1) (I false)
def yc (k:Nat) (I:Int->OS S) (c0:Cl) (s:LC) (j:Int->OS S) (q:Int):OS S:=ab (decide ((q:Int)<(s.length:Int))) (asP (af s q) fun x1=>aa k (yC k x1 c0) fun x=>ab (x) (I q) (j (su .i64 (q+1)))) (I (-1))
def qO (k:Nat) (I:Int->OS S) (c0:Cl) (s:LC):Nat->Int->OS S
 |0=>fun _=> .none
 |m+1=>fun j=>yc k I c0 s (qO k I c0 s m) j
def IM (k:Nat) (I:Int->OS S) (J0:Int->OS S) (s:LC) (c0:Cl):OS S:=J0 0
def DV (k:Nat) (s:LC) (c0:Cl) (I:Int->OS S):OS S:=IM k I (fun j=>qO k I c0 s k j) s c0
def DT (k:Nat) (s:LC) (c0:Cl) (I:Bool->OS S):OS S:=aa k (DV k s c0) fun r1=>I (decide ((r1:Int)>=0))
def yB (k:Nat) (c:Cl) (c0:LC) (I:Bool->OS S):OS S:=aa k (DT k c0 c) fun r1=>I r1
def wM (k:Nat) (I:LC×Int->OS S) (q:LC) (x:Int->(LC)->OS S) (v36:Int) (j:LC):OS S:=ab (decide ((v36:Int)<(q.length:Int))) (asP (af q v36) fun x4=>aa k (yB k x4 q) fun z=>ab (!z) (asP (aw 1099511627776 j.length [x4].length) fun x6=>x (su .i64 (v36+1)) (j++[x4])) (x (su .i64 (v36+1)) j)) (ab (decide (((j.length:Int):Int)>64)) (I (([]:LC),3)) (I (sortCl j,0)))
def nz (k:Nat) (I:LC×Int->OS S) (j:LC):Nat->Int->(LC)->OS S
 |0=>fun _ _=> .none
 |m+1=>fun v36 q=>wM k I j (nz k I j m) v36 q
def awk (k:Nat) (I:LC×Int->OS S) (l:LC) (J1:(LC)->Int->(LC)->OS S) (x:(List (Cl×Bool))->(LC)->Int->OS S) (z:List (Cl×Bool)) (j:LC) (q:Int):OS S:=ab (decide ((q:Int)<(l.length:Int))) (asP (af l q) fun x1=>aa k (tC k x1) fun A=>ab (!A) (I (([]:LC),2)) (ab (!((dW VV ET.C z x1).getD false)) (asP (aw 1099511627776 j.length [x1].length) fun x3=>x (fz VV ET.C z x1 true) (j++[x1]) (su .i64 (q+1))) (x z j (su .i64 (q+1))))) (J1 j 0 ([]:LC))
def pZ (k:Nat) (I:LC×Int->OS S) (l:LC):Nat->(List (Cl×Bool))->(LC)->Int->OS S
 |0=>fun _ _ _=> .none
 |m+1=>fun x j z=>awk k I l (fun j v36 q=>nz k I j k v36 q) (pZ k I l m) x j z
def Hw (k:Nat) (I:LC×Int->OS S) (J0:(List (Cl×Bool))->(LC)->Int->OS S) (l:LC):OS S:=J0 ([]:List (Cl×Bool)) ([]:LC) 0
def gy (k:Nat) (l:LC) (I:LC×Int->OS S):OS S:=Hw k I (fun q j x=>pZ k I l k q j x) l
def yb (k:Nat) (I:Bool->OS S) (s1 s2:LC) (q:Int->OS S) (j:Int):OS S:=ab (decide ((j:Int)<(s1.length:Int))) (asP (af s1 j) fun x1=>asP (af s2 j) fun x2=>ab (!((x1.pos==x2.pos)&&((x1.neg==x2.neg)&&true))) (I false) (q (su .i64 (j+1)))) (I true)
def qN (k:Nat) (I:Bool->OS S) (s1 s2:LC):Nat->Int->OS S
 |0=>fun _=> .none
 |m+1=>fun j=>yb k I s1 s2 (qN k I s1 s2 m) j
def IL (k:Nat) (I:Bool->OS S) (J0:Int->OS S) (s1 s2:LC):OS S:=ab (!((s1.length:Int)==(s2.length:Int))) (I false) (J0 0)
def zz (k:Nat) (s1 s2:LC) (I:Bool->OS S):OS S:=IL k I (fun j=>qN k I s1 s2 k j) s1 s2
def hY (k:Nat) (f:LC) (I:Bool->OS S):OS S:=aa k (gy k f) fun r1=>ab (r1.2==0) (aa k (zz k r1.1 f) fun j=>I j) (I false)
def nd (k:Nat) (i:Int) (I:Bool->OS S):OS S:=ab (decide ((i:Int)>=0)) (I (decide ((i:Int)<24))) (I false)
def jX (k:Nat) (s i:Int) (I:Int->OS S):OS S:=aa k (nd k i) fun r1=>ab (!r1) (I (bj .and .u32 s 16777215)) (asP (bR (0<=(su .u64 i))) fun x2=>I (bj .andNot .u32 (bj .and .u32 s 16777215) (su .u32 (1*2^min (arM (su .u64 i)) 32))))
def wY (k:Nat) (I:Int->OS S) (f:LC) (j:Int->Int->OS S) (x q:Int):OS S:=ab (decide ((q:Int)<(f.length:Int))) (asP (af f q) fun x1=>j (bj .or .u32 x (bj .or .u32 x1.pos x1.neg)) (su .i64 (q+1))) (aa k (jX k x (-1)) fun z=>I z)
def qb (k:Nat) (I:Int->OS S) (f:LC):Nat->Int->Int->OS S
 |0=>fun _ _=> .none
 |m+1=>fun j q=>wY k I f (qb k I f m) j q
def HL (k:Nat) (I:Int->OS S) (J0:Int->Int->OS S) (f:LC):OS S:=J0 0 0
def jc (k:Nat) (f:LC) (I:Int->OS S):OS S:=HL k I (fun j q=>qb k I f k j q) f
def lK (k:Nat) (f:LC) (dims:Int) (I:Bool->OS S):OS S:=ab (decide ((dims:Int)>=24)) (I true) (aa k (jc k f) fun r1=>asP (bR (0<=(su .u64 dims))) fun x2=>I ((Int.fdiv r1 (2^min (arM (su .u64 dims)) 32))==0))
def tB (k:Nat) (c:Cl) (I:Bool->OS S):OS S:=I (!((bj .and .u32 c.pos c.neg)==0))
def yd (k:Nat) (I:Int->OS S) (s:LC) (j:Int->OS S) (q:Int):OS S:=ab (decide ((q:Int)<(s.length:Int))) (asP (af s q) fun x1=>aa k (tB k x1) fun x=>ab (x) (I q) (j (su .i64 (q+1)))) (I (-1))
def qP (k:Nat) (I:Int->OS S) (s:LC):Nat->Int->OS S
 |0=>fun _=> .none
 |m+1=>fun j=>yd k I s (qP k I s m) j
def IN (k:Nat) (I:Int->OS S) (J0:Int->OS S) (s:LC):OS S:=J0 0
def DW (k:Nat) (s:LC) (I:Int->OS S):OS S:=IN k I (fun j=>qP k I s k j) s
def DU (k:Nat) (s:LC) (I:Bool->OS S):OS S:=aa k (DW k s) fun r1=>I (decide ((r1:Int)>=0))
def pd (k:Nat) (f:LC) (I:Bool->OS S):OS S:=aa k (hY k f) fun r1=>ab (r1) (aa k (DU k f) fun j=>I (!j)) (I false)
def yl (k:Nat) (I:Bool->OS S) (t:Tm) (dims:Int) (q:Int->OS S) (v109:Int):OS S:=ab (decide ((v109:Int)<(t.sys.length:Int))) (asP (af t.sys v109) fun j=>aa k (lJ k t.kind) fun r13=>ab (!((j.kids.length:Int)==r13)) (I false) (aa k (pd k j.face) fun r14=>ab (!r14) (I false) (aa k (lK k j.face dims) fun x=>ab (!x) (I false) (q (su .i64 (v109+1)))))) (I ((t.r.length:Int)==0))
def kO (k:Nat) (I:Bool->OS S) (t:Tm) (dims:Int):Nat->Int->OS S
 |0=>fun _=> .none
 |m+1=>fun v109=>yl k I t dims (kO k I t dims m) v109
def tw (k:Nat) (I:Bool->OS S) (t:Tm) (vars dims:Int) (J1:Int->OS S):OS S:=ab (t.kind==1) (ab ((t.r.length:Int)==0) (ab (decide ((t.n:Int)>=0)) (ab (decide ((vars:Int)<0)) (I true) (I (decide ((t.n:Int)<vars)))) (I false)) (I false)) (ab (t.kind==2) (ab ((t.r.length:Int)==0) (aa k (zC k t.name) fun x=>I x) (I false)) (ab (t.kind==13) (aa k (hY k t.r) fun z=>ab (z) (aa k (lK k t.r dims) fun A=>I A) (I false)) (ab (t.kind==21) (aa k (hY k t.r) fun B=>ab (B) (aa k (lK k t.r dims) fun E=>I E) (I false)) (ab (t.kind==26) (aa k (hY k t.r) fun F=>ab (F) (aa k (lK k t.r dims) fun J=>I J) (I false)) (ab (t.kind==14) (aa k (pd k t.r) fun j=>ab (j) (aa k (lK k t.r dims) fun q=>I q) (I false)) (J1 0))))))
def Ar (k:Nat) (I:Bool->OS S) (t:Tm) (vars dims:Int):Nat->OS S
 |0=> .none
 |_+1=>tw k I t vars dims (fun v109=>kO k I t dims k v109)
def IZ (k:Nat) (I:Bool->OS S) (J0:OS S) (t:Tm) (vars dims:Int):OS S:=aa k (zA k t.kind) fun r1=>ab (!(r1==(t.kids.length:Int))) (I false) (ab (!(t.kind==1)) (ab (!(t.n==0)) (I false) (ab (!(t.kind==2)) (ab (!(t.name==alH)) (I false) (aa k (lJ k t.kind) fun z=>ab (z==0) (ab (decide (((t.sys.length:Int):Int)>0)) (I false) (J0)) (J0))) (aa k (lJ k t.kind) fun j=>ab (j==0) (ab (decide (((t.sys.length:Int):Int)>0)) (I false) (J0)) (J0)))) (ab (!(t.kind==2)) (ab (!(t.name==alH)) (I false) (aa k (lJ k t.kind) fun q=>ab (q==0) (ab (decide (((t.sys.length:Int):Int)>0)) (I false) (J0)) (J0))) (aa k (lJ k t.kind) fun x=>ab (x==0) (ab (decide (((t.sys.length:Int):Int)>0)) (I false) (J0)) (J0))))
def uj (k:Nat) (t:Tm) (vars dims:Int) (I:Bool->OS S):OS S:=IZ k I (Ar k I t vars dims k) t vars dims
abbrev dr (S:Type):=Tm->Int->Int->Bool->(Bool->OS S)->OS S
def uh (hd:dr S) (k:Nat) (a_k:Tm) (v d c0 c1:Int) (c2:Bool) (I:Bool->OS S):OS S:=ab (decide ((c0:Int)<0)) (hd (ac a_k) (su .i64 (c0+0)) (su .i64 (c1+d)) c2 fun r1=>I r1) (hd (ac a_k) (su .i64 (c0+v)) (su .i64 (c1+d)) c2 fun j=>I j)
def yh (hd:dr S) (k:Nat) (I:Bool->OS S) (c0 c1:Int) (c2:Bool) (t:Tm) (v42:Int) (x4:(Br Tm)) (j:Int) (q:Int->Int->OS S) (x:Int->OS S) (v49:Int):OS S:=ab (decide ((v49:Int)<(x4.kids.length:Int))) (asP (af x4.kids v49) fun x5=>aa k (uh hd k (ac x5) 0 j c0 c1 c2) fun z=>ab (!z) (I false) (x (su .i64 (v49+1)))) (q (su .i64 (v42+1)) j)
def mi (hd:dr S) (k:Nat) (I:Bool->OS S) (q:Int->Int->OS S) (c0 c1:Int) (c2:Bool) (t:Tm) (v42:Int) (x4:(Br Tm)) (j:Int):Nat->Int->OS S
 |0=>fun _=> .none
 |m+1=>fun v49=>yh hd k I c0 c1 c2 t v42 x4 j q (mi hd k I q c0 c1 c2 t v42 x4 j m) v49
def tl (hd:dr S) (k:Nat) (I:Bool->OS S) (c0 c1:Int) (c2:Bool) (t:Tm) (J2:Int->(Br Tm)->Int->Int->OS S) (q:Int->Int->OS S) (v42 j:Int):OS S:=ab (decide ((v42:Int)<(t.sys.length:Int))) (asP (af t.sys v42) fun x4=>J2 v42 x4 j 0) (I true)
def iC (hd:dr S) (k:Nat) (I:Bool->OS S) (c0 c1:Int) (c2:Bool) (t:Tm):Nat->Int->Int->OS S
 |0=>fun _ _=> .none
 |m+1=>fun v42 j=>tl hd k I c0 c1 c2 t (fun v42 x4 j v49=>mi hd k I (iC hd k I c0 c1 c2 t m) c0 c1 c2 t v42 x4 j k v49) (iC hd k I c0 c1 c2 t m) v42 j
def tk (hd:dr S) (k:Nat) (I:Bool->OS S) (c0 c1:Int) (c2:Bool) (t:Tm) (J1:Int->Int->OS S) (j:Int->OS S) (v17:Int):OS S:=ab (decide ((v17:Int)<(t.kids.length:Int))) (asP (af t.kids v17) fun x1=>aa k (gI k t.kind v17) fun q=>aa k (uh hd k (ac x1) q.1 q.2 c0 c1 c2) fun x=>ab (!x) (I false) (j (su .i64 (v17+1)))) (ab (t.kind==15) (J1 0 1) (J1 0 0))
def nZ (hd:dr S) (k:Nat) (I:Bool->OS S) (c0 c1:Int) (c2:Bool) (t:Tm):Nat->Int->OS S
 |0=>fun _=> .none
 |m+1=>fun v17=>tk hd k I c0 c1 c2 t (fun v42 j=>iC hd k I c0 c1 c2 t k v42 j) (nZ hd k I c0 c1 c2 t m) v17
def IU (hd:dr S) (k:Nat) (I:Bool->OS S) (J0:Int->OS S) (t:Tm) (c0 c1:Int) (c2:Bool):OS S:=J0 0
def zB (hd:dr S) (k:Nat) (t:Tm) (c0 c1:Int) (c2:Bool) (I:Bool->OS S):OS S:=IU hd k I (fun v17=>nZ hd k I c0 c1 c2 t k v17) t c0 c1 c2
def TT (hd:dr S) (k:Nat) (I:Bool->OS S) (t:Tm) (vars dims:Int) (bound:Bool):OS S:=ab (bound) (ab (decide ((dims:Int)>24)) (I false) (aa k (uj k (ac t) vars dims) fun r1=>ab (!r1) (I false) (aa k (zB hd k (ac t) vars dims bound) fun j=>I j))) (aa k (uj k (ac t) vars dims) fun q=>ab (!q) (I false) (aa k (zB hd k (ac t) vars dims bound) fun x=>I x))
def ic:Nat->Tm->Int->Int->Bool->(Bool->OS S)->OS S
 |0=>fun _ _ _ _ _=> .none
 |k+1=>fun t vars dims bound I=>TT (ic k) k I t vars dims bound
def asi (k:Nat) (t:Tm) (I:Int->OS S):OS S:=aa k (zD k (ac t)) fun r1=>ab (!(r1==0)) (I r1) (ic k (ac t) (-1) 24 false fun j=>ab (!j) (I 100) (I 0))
abbrev eP (S:Type):=Tm->(Tm->OS S)->OS S
def yf (hd:eP S) (k:Nat) (I:LT->OS S) (l:LT) (q:(LT)->Int->OS S) (j:LT) (x:Int):OS S:=ab (decide ((x:Int)<(l.length:Int))) (asP (af l x) fun x1=>hd (ac x1) fun z=>asP (aw 1099511627776 j.length [(ac z)].length) fun x3=>q (j++[(ac z)]) (su .i64 (x+1))) (I j)
def av5 (hd:eP S) (k:Nat) (I:LT->OS S) (l:LT):Nat->(LT)->Int->OS S
 |0=>fun _ _=> .none
 |m+1=>fun j q=>yf hd k I l (av5 hd k I l m) j q
def IS (hd:eP S) (k:Nat) (I:LT->OS S) (J0:(LT)->Int->OS S) (l:LT):OS S:=J0 ([]:LT) 0
def ui (hd:eP S) (k:Nat) (l:LT) (I:LT->OS S):OS S:=IS hd k I (fun j q=>av5 hd k I l k j q) l
def ye (hd:eP S) (k:Nat) (I:Tm->OS S) (t:Tm) (r1:LC) (r2:LT) (q:(LB)->Int->OS S) (j:LB) (v22:Int):OS S:=ab (decide ((v22:Int)<(t.sys.length:Int))) (asP (af t.sys v22) fun x3=>rj x3.face fun x=>aa k (ui hd k x3.kids) fun z=>asP (aw 1099511627776 j.length [(Br.mk x z)].length) fun x6=>q (j++[(Br.mk x z)]) (su .i64 (v22+1))) (I (Tm.mk t.kind t.n t.name r1 r2 j))
def qQ (hd:eP S) (k:Nat) (I:Tm->OS S) (t:Tm) (r1:LC) (r2:LT):Nat->(LB)->Int->OS S
 |0=>fun _ _=> .none
 |m+1=>fun j v22=>ye hd k I t r1 r2 (qQ hd k I t r1 r2 m) j v22
def IP (hd:eP S) (k:Nat) (I:Tm->OS S) (J0:(LC)->(LT)->(LB)->Int->OS S) (t:Tm):OS S:=rj t.r fun r1=>aa k (ui hd k t.kids) fun j=>J0 r1 j ([]:LB) 0
def dJ:Nat->Tm->(Tm->OS S)->OS S
 |0=>fun _ _=> .none
 |k+1=>fun t I=>IP (dJ k) k I (fun r1 q j v22=>qQ (dJ k) k I t r1 q k j v22) t
def dG (k:Nat) (c0:Int) (I:Bool->OS S):OS S:=I (c0==0)
abbrev dq (S:Type):=Tm->(Int->OS S)->OS S
def ug (hd:dq S) (k:Nat) (a_k:Tm) (p j c0:Int) (I:Bool×Int->OS S):OS S:=hd (ac a_k) fun r1=>I (true,su .i64 (c0+r1))
def yj (hd:dq S) (k:Nat) (I:Bool×Int->OS S) (t:Tm) (v42:Int) (x4:(Br Tm)) (j:Int) (q:Int->Int->Int->OS S) (x:Int->Int->OS S) (e0_0'' v49:Int):OS S:=ab (decide ((v49:Int)<(x4.kids.length:Int))) (asP (af x4.kids v49) fun x5=>aa k (ug hd k (ac x5) 0 j e0_0'') fun z=>ab (!z.1) (I (false,z.2)) (x z.2 (su .i64 (v49+1)))) (q e0_0'' (su .i64 (v42+1)) j)
def n4 (hd:dq S) (k:Nat) (I:Bool×Int->OS S) (q:Int->Int->Int->OS S) (t:Tm) (v42:Int) (x4:(Br Tm)) (j:Int):Nat->Int->Int->OS S
 |0=>fun _ _=> .none
 |m+1=>fun e0_0'' v49=>yj hd k I t v42 x4 j q (n4 hd k I q t v42 x4 j m) e0_0'' v49
def tr (hd:dq S) (k:Nat) (I:Bool×Int->OS S) (t:Tm) (J2:Int->(Br Tm)->Int->Int->Int->OS S) (q:Int->Int->Int->OS S) (e0_0' v42 j:Int):OS S:=ab (decide ((v42:Int)<(t.sys.length:Int))) (asP (af t.sys v42) fun x4=>J2 v42 x4 j e0_0' 0) (I (true,e0_0'))
def kM (hd:dq S) (k:Nat) (I:Bool×Int->OS S) (t:Tm):Nat->Int->Int->Int->OS S
 |0=>fun _ _ _=> .none
 |m+1=>fun e0_0' v42 j=>tr hd k I t (fun v42 x4 j e0_0'' v49=>n4 hd k I (kM hd k I t m) t v42 x4 j k e0_0'' v49) (kM hd k I t m) e0_0' v42 j
def tq (hd:dq S) (k:Nat) (I:Bool×Int->OS S) (t:Tm) (J1:Int->Int->Int->OS S) (q:Int->Int->OS S) (j v17:Int):OS S:=ab (decide ((v17:Int)<(t.kids.length:Int))) (asP (af t.kids v17) fun x1=>aa k (gI k t.kind v17) fun z=>aa k (ug hd k (ac x1) z.1 z.2 j) fun x=>ab (!x.1) (I (false,x.2)) (q x.2 (su .i64 (v17+1)))) (ab (t.kind==15) (J1 j 0 1) (J1 j 0 0))
def av6 (hd:dq S) (k:Nat) (I:Bool×Int->OS S) (t:Tm):Nat->Int->Int->OS S
 |0=>fun _ _=> .none
 |m+1=>fun q v17=>tq hd k I t (fun e0_0' v42 j=>kM hd k I t k e0_0' v42 j) (av6 hd k I t m) q v17
def IW (hd:dq S) (k:Nat) (I:Bool×Int->OS S) (J0:Int->Int->OS S) (t:Tm) (c0:Int):OS S:=J0 c0 0
def DY (hd:dq S) (k:Nat) (t:Tm) (c0:Int) (I:Bool×Int->OS S):OS S:=IW hd k I (fun j v17=>av6 hd k I t k j v17) t c0
def TS (hd:dq S) (k:Nat) (I:Int->OS S) (t:Tm):OS S:=aa k (DY hd k (ac t) 1) fun r1=>I r1.2
def j6:Nat->Tm->(Int->OS S)->OS S
 |0=>fun _ _=> .none
 |k+1=>fun t I=>TS (j6 k) k I t
abbrev fK (S:Type):=Tm->Int->(Int->OS S)->OS S
def xh (hd:fK S) (k:Nat) (I:Int->OS S) (a_n:Int) (t:Tm) (v49:Int) (x4:(Br Tm)) (x:Int->Int->OS S) (z:Int->Int->OS S) (j q:Int):OS S:=ab (decide ((q:Int)<(x4.kids.length:Int))) (asP (af x4.kids q) fun x5=>hd (ac x5) a_n fun A=>z (su .i64 (j+A)) (su .i64 (q+1))) (x (su .i64 (v49+1)) j)
def nG (hd:fK S) (k:Nat) (I:Int->OS S) (q:Int->Int->OS S) (a_n:Int) (t:Tm) (v49:Int) (x4:(Br Tm)):Nat->Int->Int->OS S
 |0=>fun _ _=> .none
 |m+1=>fun j x=>xh hd k I a_n t v49 x4 q (nG hd k I q a_n t v49 x4 m) j x
def sE (hd:fK S) (k:Nat) (I:Int->OS S) (a_n:Int) (t:Tm) (J3:Int->(Br Tm)->Int->Int->OS S) (q:Int->Int->OS S) (v49 j:Int):OS S:=ab (decide ((v49:Int)<(t.sys.length:Int))) (asP (af t.sys v49) fun x4=>J3 v49 x4 j 0) (I j)
def ku (hd:fK S) (k:Nat) (I:Int->OS S) (a_n:Int) (t:Tm):Nat->Int->Int->OS S
 |0=>fun _ _=> .none
 |m+1=>fun v49 q=>sE hd k I a_n t (fun v49 x4 j x=>nG hd k I (ku hd k I a_n t m) a_n t v49 x4 k j x) (ku hd k I a_n t m) v49 q
def sD (hd:fK S) (k:Nat) (I:Int->OS S) (t:Tm) (a_n:Int) (J2:Int->Int->OS S) (q:Int->Int->OS S) (v26 j:Int):OS S:=ab (decide ((v26:Int)<(t.kids.length:Int))) (asP (af t.kids v26) fun x1=>aa k (gI k t.kind v26) fun x=>hd (ac x1) (su .i64 (a_n+x.1)) fun z=>q (su .i64 (v26+1)) (su .i64 (j+z))) (J2 0 j)
def nF (hd:fK S) (k:Nat) (I:Int->OS S) (t:Tm) (a_n:Int):Nat->Int->Int->OS S
 |0=>fun _ _=> .none
 |m+1=>fun v26 q=>sD hd k I t a_n (fun v49 j=>ku hd k I a_n t k v49 j) (nF hd k I t a_n m) v26 q
def xg (hd:fK S) (k:Nat) (I:Int->OS S) (t:Tm) (a_n:Int) (J1:Int->Int->OS S):OS S:=J1 0 0
def Ak (hd:fK S) (k:Nat) (I:Int->OS S) (t:Tm) (a_n:Int):Nat->OS S
 |0=> .none
 |_+1=>xg hd k I t a_n (fun v26 j=>nF hd k I t a_n k v26 j)
def BU (hd:fK S) (k:Nat) (I:Int->OS S) (J0:OS S) (t:Tm) (a_n:Int):OS S:=ab (t.kind==1) (ab (t.n==a_n) (I 1) (J0)) (J0)
def gz:Nat->Tm->Int->(Int->OS S)->OS S
 |0=>fun _ _ _=> .none
 |k+1=>fun t a_n I=>BU (gz k) k I (Ak (gz k) k I t a_n k) t a_n
def w9 (k:Nat) (I:Int->OS S) (l:List (LC)) (j:Int->OS S) (q:Int):OS S:=ab (decide ((q:Int)<(l.length:Int))) (asP (af l q) fun x1=>aa k (hY k x1) fun x=>ab (!x) (I 2) (j (su .i64 (q+1)))) (I 0)
def qi (k:Nat) (I:Int->OS S) (l:List (LC)):Nat->Int->OS S
 |0=>fun _=> .none
 |m+1=>fun j=>w9 k I l (qi k I l m) j
def HT (k:Nat) (I:Int->OS S) (J0:Int->OS S) (l:List (LC)):OS S:=J0 0
def pi (k:Nat) (l:List (LC)) (I:Int->OS S):OS S:=HT k I (fun j=>qi k I l k j) l
def tK (k:Nat) (I:LC->OS S):OS S:=I ([]:LC)
def pn (k:Nat) (i:Int) (I:Int->OS S):OS S:=asP (bR (0<=(su .u64 (if 24<i then 24 else i)))) fun x1=>I (su .u32 (su .u64 ((su .u64 (1*2^min (arM (su .u64 (if 24<i then 24 else i))) 64))-1)))
def lx (k:Nat) (s a_from a_by:Int) (I:Int×Int->OS S):OS S:=ab (decide ((a_from:Int)<0)) (I (0,2)) (ab (decide ((a_by:Int)<0)) (I (0,2)) (aa k (pn k a_from) fun r1=>aa k (pn k a_from) fun j=>ab ((su .u64 (bj .andNot .u32 (bj .and .u32 s 16777215) j))==0) (I (bj .and .u32 (bj .and .u32 s 16777215) r1,0)) (ab (decide ((a_by:Int)>=24)) (I (0,10)) (asP (bR (0<=(su .u64 a_by))) fun x3=>ab (decide ((su .u64 ((su .u64 (bj .andNot .u32 (bj .and .u32 s 16777215) j))*2^min (arM (su .u64 a_by)) 64):Int)>16777215)) (I (0,10)) (asP (bR (0<=(su .u64 a_by))) fun x4=>I (bj .or .u32 (bj .and .u32 (bj .and .u32 s 16777215) r1) (su .u32 (su .u64 ((su .u64 (bj .andNot .u32 (bj .and .u32 s 16777215) j))*2^min (arM (su .u64 a_by)) 64))),0))))))
def yD (k:Nat) (c:Cl) (a_from a_by:Int) (I:Cl×Int->OS S):OS S:=aa k (tC k c) fun r1=>ab (!r1) (I ((Cl.mk 0 0),2)) (aa k (lx k c.pos a_from a_by) fun j=>ab (!(j.2==0)) (I ((Cl.mk 0 0),j.2)) (aa k (lx k c.neg a_from a_by) fun q=>ab (!(q.2==0)) (I ((Cl.mk 0 0),q.2)) (I ((Cl.mk j.1 q.1),0))))
def DN (k:Nat) (a_have:LC) (c:Cl) (c0 c1:Int) (I:LC×Int->OS S):OS S:=aa k (yD k c c0 c1) fun r1=>asP (aw 1099511627776 a_have.length [r1.1].length) fun x2=>I (a_have++[r1.1],r1.2)
def w6 (k:Nat) (I:LC×Int->OS S) (c0 c1:Int) (l:LC) (q:(LC)->Int->OS S) (v1:LC) (j:Int):OS S:=ab (decide ((j:Int)<(l.length:Int))) (asP (af l j) fun x1=>aa k (DN k v1 x1 c0 c1) fun x=>ab (!(x.2==0)) (I (([]:LC),x.2)) (q x.1 (su .i64 (j+1)))) (I (v1,0))
def qf (k:Nat) (I:LC×Int->OS S) (c0 c1:Int) (l:LC):Nat->(LC)->Int->OS S
 |0=>fun _ _=> .none
 |m+1=>fun v1 j=>w6 k I c0 c1 l (qf k I c0 c1 l m) v1 j
def HQ (k:Nat) (I:LC×Int->OS S) (J0:(LC)->Int->OS S) (l a_from:LC) (c0 c1:Int):OS S:=J0 a_from 0
def yT (k:Nat) (l a_from:LC) (c0 c1:Int) (I:LC×Int->OS S):OS S:=HQ k I (fun v1 j=>qf k I c0 c1 l k v1 j) l a_from c0 c1
def jV (k:Nat) (f:LC) (a_from a_by:Int) (I:LC×Int->OS S):OS S:=aa k (pi k [f]) fun r1=>ab (!(r1==0)) (I (([]:LC),r1)) (aa k (tK k) fun x=>aa k (yT k f x a_from a_by) fun j=>ab (!(j.2==0)) (I (([]:LC),j.2)) (aa k (gy k j.1) fun q=>I (q.1,q.2)))
def tN (k:Nat) (l_0 l_1:Int) (f:LC) (a_from:Int) (I:Pan Int (LC)->OS S):OS S:=ab (l_1==0) (asP (aw 1099511627776 0 f.length) fun x1=>I (.ok f)) (ab (decide ((a_from:Int)>=24)) (asP (aw 1099511627776 0 f.length) fun x2=>I (.ok f)) (aa k (jV k f a_from l_1) fun j=>ab (!(j.2==0)) (I (.pan j.2)) (I (.ok j.1))))
abbrev fJ (S:Type):=Int->Int->Tm->Int->Int->(Pan Int Tm->OS S)->OS S
def xe (hd:fJ S) (k:Nat) (I:Pan Int Tm->OS S) (r12:LC) (l_0 l_1:Int) (t:Tm) (O:Int) (r2:LC) (M:LT) (A:LB) (B:(Br Tm)) (q v d v90:Int) (E:(LB)->Int->Int->OS S) (F:(LT)->Int->OS S) (j:LT) (x:Int):OS S:=ab (decide ((x:Int)<(B.kids.length:Int))) (asP (af B.kids x) fun J=>hd l_0 l_1 (ac J) v (su .i64 (d+q)) fun z=>Pan.elim z (fun z=>asP (aw 1099511627776 j.length [(ac z)].length) fun T=>F (j++[(ac z)]) (su .i64 (x+1))) (fun L=>I (.pan L))) (asP (aw 1099511627776 A.length [(Br.mk r12 j)].length) fun W=>E (A++[(Br.mk r12 j)]) q (su .i64 (v90+1)))
def l7 (hd:fJ S) (k:Nat) (I:Pan Int Tm->OS S) (q:(LB)->Int->Int->OS S) (r12:LC) (l_0 l_1:Int) (t:Tm) (B:Int) (r2:LC) (x:LT) (z:LB) (E:(Br Tm)) (j v d v90:Int):Nat->(LT)->Int->OS S
 |0=>fun _ _=> .none
 |m+1=>fun A F=>xe hd k I r12 l_0 l_1 t B r2 x z E j v d v90 q (l7 hd k I q r12 l_0 l_1 t B r2 x z E j v d v90 m) A F
def sA (hd:fJ S) (k:Nat) (I:Pan Int Tm->OS S) (l_0 l_1:Int) (t:Tm) (B:Int) (r2:LC) (z:LT) (v d:Int) (J3:(LC)->(LB)->(Br Tm)->Int->Int->(LT)->Int->OS S) (F:(LB)->Int->Int->OS S) (q:LB) (j v90:Int):OS S:=ab (decide ((v90:Int)<(t.sys.length:Int))) (asP (af t.sys v90) fun A=>aa k (tN k l_0 l_1 A.face d) fun x=>Pan.elim x (fun x=>J3 x q A j v90 ([]:LT) 0) (fun E=>I (.pan E))) (I (.ok (Tm.mk t.kind B t.name r2 z q)))
def atX (hd:fJ S) (k:Nat) (I:Pan Int Tm->OS S) (l_0 l_1:Int) (t:Tm) (z:Int) (r2:LC) (q:LT) (v d:Int):Nat->(LB)->Int->Int->OS S
 |0=>fun _ _ _=> .none
 |m+1=>fun x j A=>sA hd k I l_0 l_1 t z r2 q v d (fun F x J j A B E=>l7 hd k I (atX hd k I l_0 l_1 t z r2 q v d m) F l_0 l_1 t z r2 q x J j v d A k B E) (atX hd k I l_0 l_1 t z r2 q v d m) x j A
def sz (hd:fJ S) (k:Nat) (I:Pan Int Tm->OS S) (l_0 l_1:Int) (t:Tm) (B:Int) (r2:LC) (v d:Int) (J2:(LT)->(LB)->Int->Int->OS S) (x:(LT)->Int->OS S) (j:LT) (q:Int):OS S:=ab (decide ((q:Int)<(t.kids.length:Int))) (asP (af t.kids q) fun x4=>aa k (gI k t.kind q) fun A=>hd l_0 l_1 (ac x4) (su .i64 (v+A.1)) (su .i64 (d+A.2)) fun z=>Pan.elim z (fun z=>asP (aw 1099511627776 j.length [(ac z)].length) fun F=>x (j++[(ac z)]) (su .i64 (q+1))) (fun E=>I (.pan E))) (ab (t.kind==15) (J2 j ([]:LB) 1 0) (J2 j ([]:LB) 0 0))
def auw (hd:fJ S) (k:Nat) (I:Pan Int Tm->OS S) (l_0 l_1:Int) (t:Tm) (x:Int) (r2:LC) (v d:Int):Nat->(LT)->Int->OS S
 |0=>fun _ _=> .none
 |m+1=>fun j A=>sz hd k I l_0 l_1 t x r2 v d (fun j z q B=>atX hd k I l_0 l_1 t x r2 j v d k z q B) (auw hd k I l_0 l_1 t x r2 v d m) j A
def Da (hd:fJ S) (k:Nat) (I:Pan Int Tm->OS S) (l_0 l_1:Int) (t:Tm) (r2:LC) (v d:Int) (J1:Int->(LT)->Int->OS S) (j:Int):OS S:=J1 j ([]:LT) 0
def uJ (hd:fJ S) (k:Nat) (I:Pan Int Tm->OS S) (l_0 l_1:Int) (t:Tm) (r2:LC) (v d:Int):Nat->Int->OS S
 |0=>fun _=> .none
 |_+1=>fun j=>Da hd k I l_0 l_1 t r2 v d (fun j q x=>auw hd k I l_0 l_1 t j r2 v d k q x) j
def HY (hd:fJ S) (k:Nat) (I:Pan Int Tm->OS S) (J0:(LC)->Int->OS S) (l_0 l_1:Int) (t:Tm) (v d:Int):OS S:=aa k (tN k l_0 l_1 t.r d) fun j=>Pan.elim j (fun j=>ab (t.kind==1) (ab (decide ((t.n:Int)>=v)) (ab (decide ((t.n:Int)>(su .i64 (1000000000-l_0)))) (I (.pan 100)) (J0 j (su .i64 (t.n+l_0)))) (J0 j t.n)) (J0 j t.n)) (fun q=>I (.pan q))
def dk:Nat->Int->Int->Tm->Int->Int->(Pan Int Tm->OS S)->OS S
 |0=>fun _ _ _ _ _ _=> .none
 |k+1=>fun l_0 l_1 t v d I=>HY (dk k) k I (fun q j=>uJ (dk k) k I l_0 l_1 t q v d k j) l_0 l_1 t v d
def yW (k:Nat) (c0 c1:Int) (c2:Tm) (I:Pan Int Tm->OS S):OS S:=dk k c1 0 (ac c2) 0 0 fun j=>Pan.elim j (fun j=>dk k 0 c0 (ac j) 0 0 fun q=>Pan.elim q (fun q=>I (.ok (ac q))) (fun x=>I (.pan x))) (fun z=>I (.pan z))
def xd (k:Nat) (I:Tm×Int->OS S) (c0 c1:Int) (c2:Tm) (numbers:List Int) (q:Int->OS S) (j:Int):OS S:=ab (decide ((j:Int)<(numbers.length:Int))) (asP (af numbers j) fun x2=>ab (decide ((x2:Int)<0)) (I ((Tm.mk 0 0 alH [] [] []),2)) (q (su .i64 (j+1)))) (aa k (yW k c0 c1 (ac c2)) fun x=>Pan.elim x (fun x=>I ((ac x),0)) (fun z=>I ((Tm.mk 0 0 alH [] [] []),z)))
def nE (k:Nat) (I:Tm×Int->OS S) (c0 c1:Int) (c2:Tm) (numbers:List Int):Nat->Int->OS S
 |0=>fun _=> .none
 |m+1=>fun j=>xd k I c0 c1 c2 numbers (nE k I c0 c1 c2 numbers m) j
def BS (k:Nat) (I:Tm×Int->OS S) (J0:Int->OS S) (t:Tm) (numbers:List Int) (c0 c1:Int) (c2:Tm):OS S:=aa k (asi k (ac t)) fun r1=>ab (!(r1==0)) (I ((Tm.mk 0 0 alH [] [] []),r1)) (J0 0)
def y7 (k:Nat) (t:Tm) (numbers:List Int) (c0 c1:Int) (c2:Tm) (I:Tm×Int->OS S):OS S:=BS k I (fun j=>nE k I c0 c1 c2 numbers k j) t numbers c0 c1 c2
def lu (k:Nat) (t:Tm) (vars dims:Int) (I:Tm×Int->OS S):OS S:=aa k (y7 k (ac t) [vars,dims,su .i64 (1000000-vars)] dims vars (ac t)) fun r1=>I ((ac r1.1),r1.2)
def ze (k:Nat) (t:Tm) (I:Int->OS S):OS S:=ab (t.kind==15) (I 1) (I 0)
abbrev gX (S:Type):=Tm->Int->Tm->Int->Int->(Pan Int Tm->OS S)->OS S
def xj (hd:gX S) (k:Nat) (I:Pan Int Tm->OS S) (t:Tm) (E:LT) (q:LB) (B:(Br Tm)) (u:Tm) (a_n vars dims F:Int) (z:(LB)->Int->OS S) (A:(LT)->Int->OS S) (j:LT) (x:Int):OS S:=ab (decide ((x:Int)<(B.kids.length:Int))) (asP (af B.kids x) fun J=>aa k (ze k (ac t)) fun L=>hd (ac J) a_n (ac u) vars (su .i64 (dims+L)) fun r14=>Pan.elim r14 (fun r14=>asP (aw 1099511627776 j.length [(ac r14)].length) fun O=>A (j++[(ac r14)]) (su .i64 (x+1))) (fun M=>I (.pan M))) (asP (aw 1099511627776 q.length [(Br.mk B.face j)].length) fun T=>z (q++[(Br.mk B.face j)]) (su .i64 (F+1)))
def avf (hd:gX S) (k:Nat) (I:Pan Int Tm->OS S) (x:(LB)->Int->OS S) (t:Tm) (j:LT) (q:LB) (E:(Br Tm)) (u:Tm) (a_n vars dims A:Int):Nat->(LT)->Int->OS S
 |0=>fun _ _=> .none
 |m+1=>fun z B=>xj hd k I t j q E u a_n vars dims A x (avf hd k I x t j q E u a_n vars dims A m) z B
def sG (hd:gX S) (k:Nat) (I:Pan Int Tm->OS S) (t:Tm) (q:LT) (u:Tm) (a_n vars dims:Int) (J2:(LB)->(Br Tm)->Int->(LT)->Int->OS S) (z:(LB)->Int->OS S) (j:LB) (x:Int):OS S:=ab (decide ((x:Int)<(t.sys.length:Int))) (asP (af t.sys x) fun A=>asP (aw 1099511627776 0 A.face.length) fun B=>J2 j A x ([]:LT) 0) (I (.ok (Tm.mk t.kind 0 t.name t.r q j)))
def kw (hd:gX S) (k:Nat) (I:Pan Int Tm->OS S) (t:Tm) (j:LT) (u:Tm) (a_n vars dims:Int):Nat->(LB)->Int->OS S
 |0=>fun _ _=> .none
 |m+1=>fun q x=>sG hd k I t j u a_n vars dims (fun q B x z A=>avf hd k I (kw hd k I t j u a_n vars dims m) t j q B u a_n vars dims x k z A) (kw hd k I t j u a_n vars dims m) q x
def sF (hd:gX S) (k:Nat) (I:Pan Int Tm->OS S) (t u:Tm) (a_n vars dims:Int) (J1:(LT)->(LB)->Int->OS S) (q:(LT)->Int->OS S) (j:LT) (v68:Int):OS S:=ab (decide ((v68:Int)<(t.kids.length:Int))) (asP (af t.kids v68) fun x3=>aa k (gI k t.kind v68) fun z=>hd (ac x3) a_n (ac u) (su .i64 (vars+z.1)) (su .i64 (dims+z.2)) fun x=>Pan.elim x (fun x=>asP (aw 1099511627776 j.length [(ac x)].length) fun B=>q (j++[(ac x)]) (su .i64 (v68+1))) (fun A=>I (.pan A))) (J1 j ([]:LB) 0)
def qj (hd:gX S) (k:Nat) (I:Pan Int Tm->OS S) (t u:Tm) (a_n vars dims:Int):Nat->(LT)->Int->OS S
 |0=>fun _ _=> .none
 |m+1=>fun j v68=>sF hd k I t u a_n vars dims (fun j q x=>kw hd k I t j u a_n vars dims k q x) (qj hd k I t u a_n vars dims m) j v68
def H2 (hd:gX S) (k:Nat) (I:Pan Int Tm->OS S) (J0:(LT)->Int->OS S) (t:Tm) (a_n:Int) (u:Tm) (vars dims:Int):OS S:=ab (t.kind==1) (ab (t.n==(su .i64 (a_n+vars))) (aa k (lu k (ac u) vars dims) fun r1=>ab (!(r1.2==0)) (I (.pan r1.2)) (I (.ok (ac r1.1)))) (ab (decide ((t.n:Int)>(su .i64 (a_n+vars)))) (I (.ok (Tm.mk 1 (su .i64 (t.n-1)) alH [] [] []))) (I (.ok (ac t))))) (asP (aw 1099511627776 0 t.r.length) fun x2=>J0 ([]:LT) 0)
def gA:Nat->Tm->Int->Tm->Int->Int->(Pan Int Tm->OS S)->OS S
 |0=>fun _ _ _ _ _ _=> .none
 |k+1=>fun t a_n u vars dims I=>H2 (gA k) k I (fun j v68=>qj (gA k) k I t u a_n vars dims k j v68) t a_n u vars dims
abbrev dp (S:Type):=Tm->(Int->OS S)->OS S
def uf (hd:dp S) (k:Nat) (a_k:Tm) (p j c0:Int) (I:Bool×Int->OS S):OS S:=hd (ac a_k) fun r1=>I (true,if r1>c0 then r1 else c0)
def yk (hd:dp S) (k:Nat) (I:Bool×Int->OS S) (t:Tm) (v42:Int) (x4:(Br Tm)) (j:Int) (q:Int->Int->Int->OS S) (x:Int->Int->OS S) (e0_0'' v49:Int):OS S:=ab (decide ((v49:Int)<(x4.kids.length:Int))) (asP (af x4.kids v49) fun x5=>aa k (uf hd k (ac x5) 0 j e0_0'') fun z=>ab (!z.1) (I (false,z.2)) (x z.2 (su .i64 (v49+1)))) (q e0_0'' (su .i64 (v42+1)) j)
def n5 (hd:dp S) (k:Nat) (I:Bool×Int->OS S) (q:Int->Int->Int->OS S) (t:Tm) (v42:Int) (x4:(Br Tm)) (j:Int):Nat->Int->Int->OS S
 |0=>fun _ _=> .none
 |m+1=>fun e0_0'' v49=>yk hd k I t v42 x4 j q (n5 hd k I q t v42 x4 j m) e0_0'' v49
def tu (hd:dp S) (k:Nat) (I:Bool×Int->OS S) (t:Tm) (J2:Int->(Br Tm)->Int->Int->Int->OS S) (q:Int->Int->Int->OS S) (e0_0' v42 j:Int):OS S:=ab (decide ((v42:Int)<(t.sys.length:Int))) (asP (af t.sys v42) fun x4=>J2 v42 x4 j e0_0' 0) (I (true,e0_0'))
def kN (hd:dp S) (k:Nat) (I:Bool×Int->OS S) (t:Tm):Nat->Int->Int->Int->OS S
 |0=>fun _ _ _=> .none
 |m+1=>fun e0_0' v42 j=>tu hd k I t (fun v42 x4 j e0_0'' v49=>n5 hd k I (kN hd k I t m) t v42 x4 j k e0_0'' v49) (kN hd k I t m) e0_0' v42 j
def tt (hd:dp S) (k:Nat) (I:Bool×Int->OS S) (t:Tm) (J1:Int->Int->Int->OS S) (q:Int->Int->OS S) (j v17:Int):OS S:=ab (decide ((v17:Int)<(t.kids.length:Int))) (asP (af t.kids v17) fun x1=>aa k (gI k t.kind v17) fun z=>aa k (uf hd k (ac x1) z.1 z.2 j) fun x=>ab (!x.1) (I (false,x.2)) (q x.2 (su .i64 (v17+1)))) (ab (t.kind==15) (J1 j 0 1) (J1 j 0 0))
def av7 (hd:dp S) (k:Nat) (I:Bool×Int->OS S) (t:Tm):Nat->Int->Int->OS S
 |0=>fun _ _=> .none
 |m+1=>fun q v17=>tt hd k I t (fun e0_0' v42 j=>kN hd k I t k e0_0' v42 j) (av7 hd k I t m) q v17
def IX (hd:dp S) (k:Nat) (I:Bool×Int->OS S) (J0:Int->Int->OS S) (t:Tm) (c0:Int):OS S:=J0 c0 0
def DZ (hd:dp S) (k:Nat) (t:Tm) (c0:Int) (I:Bool×Int->OS S):OS S:=IX hd k I (fun j v17=>av7 hd k I t k j v17) t c0
def TO (hd:dp S) (k:Nat) (I:Int->OS S) (t:Tm):OS S:=aa k (DZ hd k (ac t) 0) fun r1=>I (su .i64 (r1.2+1))
def j5:Nat->Tm->(Int->OS S)->OS S
 |0=>fun _ _=> .none
 |k+1=>fun t I=>TO (j5 k) k I t
def zd (k:Nat) (t:Tm) (a_n:Int) (u:Tm) (I:Tm×Int->OS S):OS S:=aa k (asi k (ac t)) fun r1=>ab (!(r1==0)) (I ((Tm.mk 0 0 alH [] [] []),r1)) (aa k (asi k (ac u)) fun q=>ab (!(q==0)) (I ((Tm.mk 0 0 alH [] [] []),q)) (ab (decide ((a_n:Int)<0)) (I ((Tm.mk 0 0 alH [] [] []),2)) (j6 k (ac t) fun x=>gz k (ac t) (if 1099511627776<a_n then 1099511627776 else a_n) fun z=>j6 k (ac u) fun A=>ab (decide ((su .i64 (x+(su .i64 (z*(su .i64 (A-1))))):Int)>20000)) (I ((Tm.mk 0 0 alH [] [] []),221)) (gA k (ac t) (if 1099511627776<a_n then 1099511627776 else a_n) (ac u) 0 0 fun j=>Pan.elim j (fun j=>j5 k (ac j) fun B=>ab (decide ((B:Int)>200)) (I ((Tm.mk 0 0 alH [] [] []),62)) (I ((ac j),0))) (fun E=>I ((Tm.mk 0 0 alH [] [] []),E))))))
def asH (k:Nat) (t:Tm) (a_e c0:Int) (I:Tm×Int->OS S):OS S:=ab (c0==0) (ab (!(a_e==0)) (I ((Tm.mk 0 0 alH [] [] []),a_e)) (I ((ac t),a_e))) (ab (!(c0==0)) (I ((Tm.mk 0 0 alH [] [] []),c0)) (I ((ac t),c0)))
def za (k:Nat) (t u:Tm) (c0:Int) (I:Tm×Int->OS S):OS S:=aa k (dG k c0) fun r1=>ab (!r1) (I ((Tm.mk 0 0 alH [] [] []),c0)) (aa k (zd k (ac t) 0 (ac u)) fun j=>aa k (asH k (ac j.1) j.2 c0) fun q=>I ((ac q.1),q.2))
def cW (k:Nat) (b:(Br Tm)) (I:Bool->OS S):OS S:=ab ((b.face.length:Int)==1) (asP (af b.face 0) fun x1=>I ((x1.pos==0)&&((x1.neg==0)&&true))) (I false)
def cm (k:Nat) (I:Int->OS S) (s:LB) (j:Int->OS S) (q:Int):OS S:=ab (decide ((q:Int)<(s.length:Int))) (asP (af s q) fun x1=>aa k (cW k x1) fun x=>ab (x) (I q) (j (su .i64 (q+1)))) (I (-1))
def av4 (k:Nat) (I:Int->OS S) (s:LB):Nat->Int->OS S
 |0=>fun _=> .none
 |m+1=>fun j=>cm k I s (av4 k I s m) j
def aAn (k:Nat) (I:Int->OS S) (J0:Int->OS S) (s:LB):OS S:=J0 0
def cP (k:Nat) (s:LB) (I:Int->OS S):OS S:=aAn k I (fun j=>av4 k I s k j) s
def cS (k:Nat) (l:LB) (I:Int->OS S):OS S:=aa k (cP k l) fun r1=>I r1
def au3 (k:Nat) (I:LC->OS S):OS S:=I [(Cl.mk 0 0)]
def i_ (k:Nat) (s i:Int) (I:Int->OS S):OS S:=aa k (nd k i) fun r1=>ab (!r1) (I (bj .and .u32 s 16777215)) (asP (bR (0<=(su .u64 i))) fun x2=>I (bj .or .u32 (bj .and .u32 s 16777215) (su .u32 (1*2^min (arM (su .u64 i)) 32))))
def JH (k:Nat) (a_x:Int) (I:Int->OS S):OS S:=asP (af (ByteArray.mk #[0,1,1,2,1,2,2,3,1,2,2,3,2,3,3,4,1,2,2,3,2,3,3,4,2,3,3,4,3,4,4,5,1,2,2,3,2,3,3,4,2,3,3,4,3,4,4,5,2,3,3,4,3,4,4,5,3,4,4,5,4,5,5,6,1,2,2,3,2,3,3,4,2,3,3,4,3,4,4,5,2,3,3,4,3,4,4,5,3,4,4,5,4,5,5,6,2,3,3,4,3,4,4,5,3,4,4,5,4,5,5,6,3,4,4,5,4,5,5,6,4,5,5,6,5,6,6,7,1,2,2,3,2,3,3,4,2,3,3,4,3,4,4,5,2,3,3,4,3,4,4,5,3,4,4,5,4,5,5,6,2,3,3,4,3,4,4,5,3,4,4,5,4,5,5,6,3,4,4,5,4,5,5,6,4,5,5,6,5,6,6,7,2,3,3,4,3,4,4,5,3,4,4,5,4,5,5,6,3,4,4,5,4,5,5,6,4,5,5,6,5,6,6,7,3,4,4,5,4,5,5,6,4,5,5,6,5,6,6,7,4,5,5,6,5,6,6,7,5,6,6,7,6,7,7,8]).data.toList (Int.fdiv a_x (2^min (arM 24) 32))) fun x1=>asP (af (ByteArray.mk #[0,1,1,2,1,2,2,3,1,2,2,3,2,3,3,4,1,2,2,3,2,3,3,4,2,3,3,4,3,4,4,5,1,2,2,3,2,3,3,4,2,3,3,4,3,4,4,5,2,3,3,4,3,4,4,5,3,4,4,5,4,5,5,6,1,2,2,3,2,3,3,4,2,3,3,4,3,4,4,5,2,3,3,4,3,4,4,5,3,4,4,5,4,5,5,6,2,3,3,4,3,4,4,5,3,4,4,5,4,5,5,6,3,4,4,5,4,5,5,6,4,5,5,6,5,6,6,7,1,2,2,3,2,3,3,4,2,3,3,4,3,4,4,5,2,3,3,4,3,4,4,5,3,4,4,5,4,5,5,6,2,3,3,4,3,4,4,5,3,4,4,5,4,5,5,6,3,4,4,5,4,5,5,6,4,5,5,6,5,6,6,7,2,3,3,4,3,4,4,5,3,4,4,5,4,5,5,6,3,4,4,5,4,5,5,6,4,5,5,6,5,6,6,7,3,4,4,5,4,5,5,6,4,5,5,6,5,6,6,7,4,5,5,6,5,6,6,7,5,6,6,7,6,7,7,8]).data.toList (bj .and .u32 (Int.fdiv a_x (2^min (arM 16) 32)) 255)) fun x2=>asP (af (ByteArray.mk #[0,1,1,2,1,2,2,3,1,2,2,3,2,3,3,4,1,2,2,3,2,3,3,4,2,3,3,4,3,4,4,5,1,2,2,3,2,3,3,4,2,3,3,4,3,4,4,5,2,3,3,4,3,4,4,5,3,4,4,5,4,5,5,6,1,2,2,3,2,3,3,4,2,3,3,4,3,4,4,5,2,3,3,4,3,4,4,5,3,4,4,5,4,5,5,6,2,3,3,4,3,4,4,5,3,4,4,5,4,5,5,6,3,4,4,5,4,5,5,6,4,5,5,6,5,6,6,7,1,2,2,3,2,3,3,4,2,3,3,4,3,4,4,5,2,3,3,4,3,4,4,5,3,4,4,5,4,5,5,6,2,3,3,4,3,4,4,5,3,4,4,5,4,5,5,6,3,4,4,5,4,5,5,6,4,5,5,6,5,6,6,7,2,3,3,4,3,4,4,5,3,4,4,5,4,5,5,6,3,4,4,5,4,5,5,6,4,5,5,6,5,6,6,7,3,4,4,5,4,5,5,6,4,5,5,6,5,6,6,7,4,5,5,6,5,6,6,7,5,6,6,7,6,7,7,8]).data.toList (bj .and .u32 (Int.fdiv a_x (2^min (arM 8) 32)) 255)) fun x3=>asP (af (ByteArray.mk #[0,1,1,2,1,2,2,3,1,2,2,3,2,3,3,4,1,2,2,3,2,3,3,4,2,3,3,4,3,4,4,5,1,2,2,3,2,3,3,4,2,3,3,4,3,4,4,5,2,3,3,4,3,4,4,5,3,4,4,5,4,5,5,6,1,2,2,3,2,3,3,4,2,3,3,4,3,4,4,5,2,3,3,4,3,4,4,5,3,4,4,5,4,5,5,6,2,3,3,4,3,4,4,5,3,4,4,5,4,5,5,6,3,4,4,5,4,5,5,6,4,5,5,6,5,6,6,7,1,2,2,3,2,3,3,4,2,3,3,4,3,4,4,5,2,3,3,4,3,4,4,5,3,4,4,5,4,5,5,6,2,3,3,4,3,4,4,5,3,4,4,5,4,5,5,6,3,4,4,5,4,5,5,6,4,5,5,6,5,6,6,7,2,3,3,4,3,4,4,5,3,4,4,5,4,5,5,6,3,4,4,5,4,5,5,6,4,5,5,6,5,6,6,7,3,4,4,5,4,5,5,6,4,5,5,6,5,6,6,7,4,5,5,6,5,6,6,7,5,6,6,7,6,7,7,8]).data.toList (bj .and .u32 a_x 255)) fun x4=>I (su .i64 (su .u8 ((su .u8 ((su .u8 ((x1.toNat:Int)+(x2.toNat:Int)))+(x3.toNat:Int)))+(x4.toNat:Int))))
def lw (k:Nat) (s:Int) (I:Int->OS S):OS S:=aa k (JH k (bj .and .u32 s 16777215)) fun r1=>I r1
def yE (k:Nat) (i:Int) (I:Bool->OS S):OS S:=aa k (i_ k 0 i) fun r1=>aa k (lw k r1) fun j=>I (j==1)
def DM (k:Nat) (t:Tm) (i:Int) (a_r:LC) (I:Int->OS S):OS S:=aa k (asi k (ac t)) fun r1=>ab (!(r1==0)) (I r1) (aa k (yE k i) fun j=>ab (!j) (I 2) (aa k (hY k a_r) fun q=>ab (!q) (I 2) (I 0)))
def DG (k:Nat) (c0:Int) (c1:LC) (I:Unit->OS S):OS S:=I ()
def DH (k:Nat) (c0:Int) (c1:LC) (I:Unit->OS S):OS S:=I ()
def DF (k:Nat) (i:Int) (a_r:LC) (I:Int×LC->OS S):OS S:=aa k (DG k i a_r) fun r1=>aa k (DH k i a_r) fun j=>I (i,a_r)
def amz (k:Nat) (s i:Int) (I:Bool->OS S):OS S:=aa k (nd k i) fun r1=>ab (r1) (asP (bR (0<=(su .u64 i))) fun x2=>I ((bj .and .u32 (Int.fdiv s (2^min (arM (su .u64 i)) 32)) 1)==1)) (I false)
def tD (k:Nat) (f:LC) (I:LC->OS S):OS S:=asP (aw 1099511627776 0 f.length) fun x1=>I f
def yK (k:Nat) (i:Int) (I:Bool->OS S):OS S:=aa k (i_ k 0 i) fun r1=>aa k (lw k r1) fun j=>I (j==1)
def tJ (k:Nat) (c:Cl) (I:Cl×Bool->OS S):OS S:=aa k (tB k c) fun r1=>I (c,!r1)
def wW (k:Nat) (I:LC->OS S) (l:LC) (q:Int->(LC)->OS S) (v12:Int) (j:LC):OS S:=ab (decide ((v12:Int)<(l.length:Int))) (asP (af l v12) fun x1=>aa k (tJ k x1) fun x=>ab (x.2) (asP (aw 1099511627776 j.length [x.1].length) fun x3=>q (su .i64 (v12+1)) (j++[x.1])) (q (su .i64 (v12+1)) j)) (I j)
def avM (k:Nat) (I:LC->OS S) (l:LC):Nat->Int->(LC)->OS S
 |0=>fun _ _=> .none
 |m+1=>fun v12 j=>wW k I l (avM k I l m) v12 j
def HJ (k:Nat) (I:LC->OS S) (J0:Int->(LC)->OS S) (l:LC):OS S:=J0 0 ([]:LC)
def yN (k:Nat) (l:LC) (I:LC->OS S):OS S:=HJ k I (fun v12 j=>avM k I l k v12 j) l
def tI (k:Nat) (f:LC) (I:LC×Int->OS S):OS S:=aa k (hY k f) fun r1=>ab (!r1) (I (([]:LC),2)) (aa k (yN k f) fun q=>aa k (gy k q) fun j=>I (j.1,j.2))
def yO (k:Nat) (b c0:Cl) (I:Cl×Bool->OS S):OS S:=aa k (pb k c0 b) fun r1=>aa k (tJ k r1) fun j=>I (j.1,j.2)
def wV (k:Nat) (I:LC->OS S) (c0:Cl) (l:LC) (q:Int->(LC)->OS S) (v12:Int) (j:LC):OS S:=ab (decide ((v12:Int)<(l.length:Int))) (asP (af l v12) fun x1=>aa k (yO k x1 c0) fun x=>ab (x.2) (asP (aw 1099511627776 j.length [x.1].length) fun x3=>q (su .i64 (v12+1)) (j++[x.1])) (q (su .i64 (v12+1)) j)) (I j)
def p8 (k:Nat) (I:LC->OS S) (c0:Cl) (l:LC):Nat->Int->(LC)->OS S
 |0=>fun _ _=> .none
 |m+1=>fun v12 j=>wV k I c0 l (p8 k I c0 l m) v12 j
def HI (k:Nat) (I:LC->OS S) (J0:Int->(LC)->OS S) (l:LC) (c0:Cl):OS S:=J0 0 ([]:LC)
def yM (k:Nat) (l:LC) (c0:Cl) (I:LC->OS S):OS S:=HI k I (fun v12 j=>p8 k I c0 l k v12 j) l c0
def wX (k:Nat) (I:LC×Int->OS S) (g f:LC) (q:Int->(LC)->OS S) (v11:Int) (j:LC):OS S:=ab (decide ((v11:Int)<(f.length:Int))) (asP (af f v11) fun x1=>aa k (yM k g x1) fun x=>asP (aw 1099511627776 j.length x.length) fun x3=>q (su .i64 (v11+1)) (j++x)) (aa k (gy k j) fun z=>I (z.1,z.2))
def p_ (k:Nat) (I:LC×Int->OS S) (g f:LC):Nat->Int->(LC)->OS S
 |0=>fun _ _=> .none
 |m+1=>fun v11 j=>wX k I g f (p_ k I g f m) v11 j
def HK (k:Nat) (I:LC×Int->OS S) (J0:Int->(LC)->OS S) (f g:LC):OS S:=J0 0 ([]:LC)
def pe (k:Nat) (f g:LC) (I:LC×Int->OS S):OS S:=HK k I (fun v11 j=>p_ k I g f k v11 j) f g
def yL (k:Nat) (f g:LC) (I:LC×Int->OS S):OS S:=asP (aw 1099511627776 ([]:LC).length f.length) fun x1=>asP (aw 1099511627776 (([]:LC)++f).length g.length) fun x2=>aa k (gy k ((([]:LC)++f)++g)) fun j=>I (j.1,j.2)
def w8 (k:Nat) (I:LC×Int->OS S) (x:List Int) (q:Int->(LC)->OS S) (v28:Int) (j:LC):OS S:=ab (decide ((v28:Int)<(x.length:Int))) (asP (af x v28) fun x6=>aa k (i_ k 0 x6) fun z=>asP (aw 1099511627776 j.length [(Cl.mk z 0)].length) fun B=>q (su .i64 (v28+1)) (j++[(Cl.mk z 0)])) (aa k (gy k j) fun A=>I (A.1,A.2))
def avc (k:Nat) (I:LC×Int->OS S) (q:List Int):Nat->Int->(LC)->OS S
 |0=>fun _ _=> .none
 |m+1=>fun v28 j=>w8 k I q (avc k I q m) v28 j
def aoa (k:Nat) (I:LC×Int->OS S) (c:Cl) (r1:List Int) (J1:(List Int)->Int->(LC)->OS S) (x:Int->(LC)->OS S) (q:Int) (j:LC):OS S:=ab (decide ((q:Int)<(r1.length:Int))) (asP (af r1 q) fun x2=>aa k (i_ k 0 x2) fun z=>asP (aw 1099511627776 j.length [(Cl.mk 0 z)].length) fun x4=>x (su .i64 (q+1)) (j++[(Cl.mk 0 z)])) (vz c.neg fun A=>J1 A 0 j)
def qh (k:Nat) (I:LC×Int->OS S) (c:Cl) (r1:List Int):Nat->Int->(LC)->OS S
 |0=>fun _ _=> .none
 |m+1=>fun x q=>aoa k I c r1 (fun z v28 j=>avc k I z k v28 j) (qh k I c r1 m) x q
def HS (k:Nat) (I:LC×Int->OS S) (J0:(List Int)->Int->(LC)->OS S) (c:Cl):OS S:=vz c.pos fun r1=>J0 r1 0 ([]:LC)
def yV (k:Nat) (c:Cl) (I:LC×Int->OS S):OS S:=HS k I (fun r1 q j=>qh k I c r1 k q j) c
def w7 (k:Nat) (I:LC×Int->OS S) (x1:Cl) (g f:LC) (A:Int) (x:Int->(LC)->OS S) (z:Int->(LC)->OS S) (q:Int) (j:LC):OS S:=ab (decide ((q:Int)<(g.length:Int))) (asP (af g q) fun x2=>aa k (pb k x1 x2) fun B=>asP (aw 1099511627776 j.length [B].length) fun x4=>z (su .i64 (q+1)) (j++[B])) (x (su .i64 (A+1)) j)
def nA (k:Nat) (I:LC×Int->OS S) (j:Int->(LC)->OS S) (x1:Cl) (g f:LC) (x:Int):Nat->Int->(LC)->OS S
 |0=>fun _ _=> .none
 |m+1=>fun z q=>w7 k I x1 g f x j (nA k I j x1 g f x m) z q
def an_ (k:Nat) (I:LC×Int->OS S) (g f:LC) (J1:Cl->Int->Int->(LC)->OS S) (x:Int->(LC)->OS S) (q:Int) (j:LC):OS S:=ab (decide ((q:Int)<(f.length:Int))) (asP (af f q) fun x1=>J1 x1 q 0 j) (aa k (gy k j) fun z=>I (z.1,z.2))
def lZ (k:Nat) (I:LC×Int->OS S) (g f:LC):Nat->Int->(LC)->OS S
 |0=>fun _ _=> .none
 |m+1=>fun j x=>an_ k I g f (fun x1 j z q=>nA k I (lZ k I g f m) x1 g f j k z q) (lZ k I g f m) j x
def HR (k:Nat) (I:LC×Int->OS S) (J0:Int->(LC)->OS S) (f g:LC):OS S:=J0 0 ([]:LC)
def jW (k:Nat) (f g:LC) (I:LC×Int->OS S):OS S:=HR k I (fun q j=>lZ k I g f k q j) f g
def yU (k:Nat) (a_have:LC) (c:Cl) (I:LC×Int->OS S):OS S:=aa k (yV k c) fun r1=>ab (!(r1.2==0)) (I (([]:LC),r1.2)) (aa k (jW k a_have r1.1) fun j=>I (j.1,j.2))
def w5 (k:Nat) (I:LC×Int->OS S) (l:LC) (q:(LC)->Int->OS S) (v1:LC) (j:Int):OS S:=ab (decide ((j:Int)<(l.length:Int))) (asP (af l j) fun x1=>aa k (yU k v1 x1) fun x=>ab (!(x.2==0)) (I (([]:LC),x.2)) (q x.1 (su .i64 (j+1)))) (I (v1,0))
def qe (k:Nat) (I:LC×Int->OS S) (l:LC):Nat->(LC)->Int->OS S
 |0=>fun _ _=> .none
 |m+1=>fun v1 j=>w5 k I l (qe k I l m) v1 j
def HP (k:Nat) (I:LC×Int->OS S) (J0:(LC)->Int->OS S) (l a_from:LC):OS S:=J0 a_from 0
def DP (k:Nat) (l a_from:LC) (I:LC×Int->OS S):OS S:=HP k I (fun v1 j=>qe k I l k v1 j) l a_from
def ph (k:Nat) (f:LC) (I:LC×Int->OS S):OS S:=aa k (au3 k) fun r1=>aa k (DP k f r1) fun j=>I (j.1,j.2)
def yQ (k:Nat) (f:LC) (I:LC×Int->OS S):OS S:=aa k (pi k [f]) fun r1=>ab (!(r1==0)) (I (([]:LC),r1)) (aa k (ph k f) fun j=>I (j.1,j.2))
def yI (k:Nat) (f:LC) (I:LC×Int->OS S):OS S:=aa k (yQ k f) fun r1=>ab (!(r1.2==0)) (I (([]:LC),r1.2)) (aa k (tI k r1.1) fun j=>I (j.1,j.2))
def wU (k:Nat) (I:LC×Int->OS S) (i:Int) (a_r f:LC) (z:Int) (A:LC) (j:Int->(LC)->OS S) (g11:LC) (q:Int):OS S:=ab (q==0) (aa k (yL k A g11) fun x=>ab (!(x.2==0)) (I (([]:LC),x.2)) (j (su .i64 (z+1)) x.1)) (ab (!(q==0)) (I (([]:LC),q)) (j (su .i64 (z+1)) A))
def p7 (k:Nat) (I:LC×Int->OS S) (j:Int->(LC)->OS S) (i:Int) (a_r f:LC) (q:Int) (z:LC):Nat->(LC)->Int->OS S
 |0=>fun _ _=> .none
 |_+1=>fun g11 x=>wU k I i a_r f q z j g11 x
def sr (k:Nat) (I:LC×Int->OS S) (i:Int) (a_r f:LC) (J1:Int->(LC)->(LC)->Int->OS S) (F:Int->(LC)->OS S) (j:Int) (x:LC):OS S:=ab (decide ((j:Int)<(f.length:Int))) (asP (af f j) fun x4=>aa k (jX k x4.pos i) fun z=>aa k (jX k x4.neg i) fun A=>aa k (amz k x4.pos i) fun L=>ab (L) (aa k (tI k a_r) fun B=>ab (B.2==0) (aa k (pe k [(Cl.mk z A)] B.1) fun J=>J1 j x J.1 J.2) (J1 j x [(Cl.mk z A)] B.2)) (aa k (amz k x4.neg i) fun E=>ab (E) (aa k (yI k a_r) fun q=>ab (q.2==0) (aa k (pe k [(Cl.mk z A)] q.1) fun r13=>J1 j x r13.1 r13.2) (J1 j x [(Cl.mk z A)] q.2)) (J1 j x [(Cl.mk z A)] 0))) (I (x,0))
def lY (k:Nat) (I:LC×Int->OS S) (i:Int) (a_r f:LC):Nat->Int->(LC)->OS S
 |0=>fun _ _=> .none
 |m+1=>fun j q=>sr k I i a_r f (fun j q g11 x=>p7 k I (lY k I i a_r f m) i a_r f j q k g11 x) (lY k I i a_r f m) j q
def HH (k:Nat) (I:LC×Int->OS S) (J0:Int->(LC)->OS S) (f:LC) (i:Int) (a_r:LC):OS S:=aa k (pd k f) fun r1=>ab (!r1) (I (([]:LC),2)) (aa k (yK k i) fun j=>ab (!j) (I (([]:LC),2)) (aa k (hY k a_r) fun q=>ab (!q) (I (([]:LC),2)) (J0 0 [])))
def yJ (k:Nat) (f:LC) (i:Int) (a_r:LC) (I:LC×Int->OS S):OS S:=HH k I (fun j q=>lY k I i a_r f k j q) f i a_r
def tF (k:Nat) (f:LC) (depth c0:Int) (c1:LC) (I:LC×Int->OS S):OS S:=aa k (jc k f) fun r1=>aa k (amz k r1 (su .i64 (c0+depth))) fun x=>ab (!x) (aa k (tD k f) fun z=>I (z,0)) (aa k (jV k c1 0 depth) fun j=>ab (!(j.2==0)) (I (([]:LC),j.2)) (aa k (yJ k f (su .i64 (c0+depth)) j.1) fun q=>I (q.1,q.2)))
def yP (k:Nat) (i:Int) (I:LC×Int->OS S):OS S:=aa k (i_ k 0 i) fun r1=>aa k (lw k r1) fun j=>ab (j==0) (I (([]:LC),2)) (aa k (i_ k 0 i) fun q=>I ([(Cl.mk q 0)],0))
def na (k:Nat) (f g:LC) (I:LC×Int->OS S):OS S:=asP (aw 1099511627776 ([]:LC).length f.length) fun x1=>asP (aw 1099511627776 (([]:LC)++f).length g.length) fun x2=>aa k (gy k ((([]:LC)++f)++g)) fun j=>I (j.1,j.2)
def yS (k:Nat) (a_have:LC) (c:Cl) (c0:Int) (c1:LC) (I:LC×Int->OS S):OS S:=aa k (jX k c.pos c0) fun r1=>aa k (jX k c.neg c0) fun z=>aa k (amz k c.pos c0) fun L=>ab (L) (aa k (jW k [(Cl.mk r1 z)] c1) fun x=>ab (!(x.2==0)) (I (([]:LC),x.2)) (aa k (amz k c.neg c0) fun M=>ab (M) (aa k (ph k c1) fun A=>ab (!(A.2==0)) (I (([]:LC),A.2)) (aa k (jW k x.1 A.1) fun B=>ab (!(B.2==0)) (I (([]:LC),B.2)) (aa k (na k a_have B.1) fun F=>I (F.1,F.2)))) (aa k (na k a_have x.1) fun J=>I (J.1,J.2)))) (aa k (amz k c.neg c0) fun E=>ab (E) (aa k (ph k c1) fun j=>ab (!(j.2==0)) (I (([]:LC),j.2)) (aa k (jW k [(Cl.mk r1 z)] j.1) fun q=>ab (!(q.2==0)) (I (([]:LC),q.2)) (aa k (na k a_have q.1) fun r13=>I (r13.1,r13.2)))) (aa k (na k a_have [(Cl.mk r1 z)]) fun r14=>I (r14.1,r14.2)))
def wZ (k:Nat) (I:LC×Int->OS S) (c0:Int) (c1 l:LC) (q:(LC)->Int->OS S) (v1:LC) (j:Int):OS S:=ab (decide ((j:Int)<(l.length:Int))) (asP (af l j) fun x1=>aa k (yS k v1 x1 c0 c1) fun x=>ab (!(x.2==0)) (I (([]:LC),x.2)) (q x.1 (su .i64 (j+1)))) (I (v1,0))
def qc (k:Nat) (I:LC×Int->OS S) (c0:Int) (c1 l:LC):Nat->(LC)->Int->OS S
 |0=>fun _ _=> .none
 |m+1=>fun v1 j=>wZ k I c0 c1 l (qc k I c0 c1 l m) v1 j
def HO (k:Nat) (I:LC×Int->OS S) (J0:(LC)->Int->OS S) (l a_from:LC) (c0:Int) (c1:LC):OS S:=J0 a_from 0
def DO (k:Nat) (l a_from:LC) (c0:Int) (c1:LC) (I:LC×Int->OS S):OS S:=HO k I (fun v1 j=>qc k I c0 c1 l k v1 j) l a_from c0 c1
def yR (k:Nat) (f:LC) (i:Int) (a_r:LC) (I:LC×Int->OS S):OS S:=aa k (pi k [f,a_r]) fun r1=>ab (!(r1==0)) (I (([]:LC),r1)) (aa k (yP k i) fun j=>ab (!(j.2==0)) (I (([]:LC),j.2)) (aa k (tK k) fun x=>aa k (DO k f x i a_r) fun q=>I (q.1,q.2)))
def yF (k:Nat) (f:LC) (depth c0:Int) (c1:LC) (I:LC×Int->OS S):OS S:=aa k (jc k f) fun r1=>aa k (amz k r1 (su .i64 (c0+depth))) fun x=>ab (!x) (aa k (tD k f) fun z=>I (z,0)) (aa k (jV k c1 0 depth) fun j=>ab (!(j.2==0)) (I (([]:LC),j.2)) (aa k (yR k f (su .i64 (c0+depth)) j.1) fun q=>I (q.1,q.2)))
def yG (k:Nat) (t:Tm) (depth c0:Int) (c1:LC) (I:LC×Int->OS S):OS S:=ab (t.kind==14) (aa k (tF k t.r depth c0 c1) fun r1=>I (r1.1,r1.2)) (aa k (yF k t.r depth c0 c1) fun j=>I (j.1,j.2))
def tG (k:Nat) (i:Int) (c0:Tm) (I:Int->OS S):OS S:=aa k (gI k c0.kind i) fun r1=>I r1.2
def tH (k:Nat) (p c0:Int) (I:Int->OS S):OS S:=I c0
abbrev c8 (S:Type):=Tm->Int->Int->(LC)->(Tm×Int->OS S)->OS S
def wQ (hd:c8 S) (k:Nat) (I:LT×Int->OS S) (c0:Int) (c1:LC) (c4:Int) (l:LT) (depth:Int) (q:(LT)->Int->OS S) (j:LT) (v17:Int):OS S:=ab (decide ((v17:Int)<(l.length:Int))) (asP (af l v17) fun x1=>aa k (tH k v17 c4) fun z=>hd (ac x1) (su .i64 (depth+z)) c0 c1 fun x=>ab (!(x.2==0)) (I (([]:LT),x.2)) (asP (aw 1099511627776 j.length [(ac x.1)].length) fun x4=>q (j++[(ac x.1)]) (su .i64 (v17+1)))) (I (j,0))
def lW (hd:c8 S) (k:Nat) (I:LT×Int->OS S) (c0:Int) (c1:LC) (c4:Int) (l:LT) (depth:Int):Nat->(LT)->Int->OS S
 |0=>fun _ _=> .none
 |m+1=>fun j v17=>wQ hd k I c0 c1 c4 l depth (lW hd k I c0 c1 c4 l depth m) j v17
def HB (hd:c8 S) (k:Nat) (I:LT×Int->OS S) (J0:(LT)->Int->OS S) (l:LT) (depth c0:Int) (c1:LC) (c4:Int):OS S:=J0 ([]:LT) 0
def DK (hd:c8 S) (k:Nat) (l:LT) (depth c0:Int) (c1:LC) (c4:Int) (I:LT×Int->OS S):OS S:=HB hd k I (fun j v17=>lW hd k I c0 c1 c4 l depth k j v17) l depth c0 c1 c4
def wR (hd:c8 S) (k:Nat) (I:LT×Int->OS S) (c0:Int) (c1:LC) (c4:Tm) (l:LT) (depth:Int) (q:(LT)->Int->OS S) (j:LT) (v17:Int):OS S:=ab (decide ((v17:Int)<(l.length:Int))) (asP (af l v17) fun x1=>aa k (tG k v17 (ac c4)) fun z=>hd (ac x1) (su .i64 (depth+z)) c0 c1 fun x=>ab (!(x.2==0)) (I (([]:LT),x.2)) (asP (aw 1099511627776 j.length [(ac x.1)].length) fun x4=>q (j++[(ac x.1)]) (su .i64 (v17+1)))) (I (j,0))
def lX (hd:c8 S) (k:Nat) (I:LT×Int->OS S) (c0:Int) (c1:LC) (c4:Tm) (l:LT) (depth:Int):Nat->(LT)->Int->OS S
 |0=>fun _ _=> .none
 |m+1=>fun j v17=>wR hd k I c0 c1 c4 l depth (lX hd k I c0 c1 c4 l depth m) j v17
def HC (hd:c8 S) (k:Nat) (I:LT×Int->OS S) (J0:(LT)->Int->OS S) (l:LT) (depth c0:Int) (c1:LC) (c4:Tm):OS S:=J0 ([]:LT) 0
def DL (hd:c8 S) (k:Nat) (l:LT) (depth c0:Int) (c1:LC) (c4:Tm) (I:LT×Int->OS S):OS S:=HC hd k I (fun j v17=>lX hd k I c0 c1 c4 l depth k j v17) l depth c0 c1 c4
def wS (hd:c8 S) (k:Nat) (I:Tm×Int->OS S) (c0:Int) (c1:LC) (t:Tm) (r1:LC×Int) (r2:LT×Int) (depth:Int) (q:Int->(LB)->Int->OS S) (x:Int) (j:LB) (v55:Int):OS S:=ab (decide ((v55:Int)<(t.sys.length:Int))) (asP (af t.sys v55) fun x3=>aa k (tF k x3.face depth c0 c1) fun z=>ab (!(z.2==0)) (I ((Tm.mk 0 0 alH [] [] []),z.2)) (ab ((z.1.length:Int)==0) (q x j (su .i64 (v55+1))) (aa k (DK hd k x3.kids depth c0 c1 x) fun A=>ab (!(A.2==0)) (I ((Tm.mk 0 0 alH [] [] []),A.2)) (asP (aw 1099511627776 j.length [(Br.mk z.1 A.1)].length) fun x6=>q x (j++[(Br.mk z.1 A.1)]) (su .i64 (v55+1)))))) (I ((Tm.mk t.kind t.n t.name r1.1 r2.1 j),0))
def fV (hd:c8 S) (k:Nat) (I:Tm×Int->OS S) (c0:Int) (c1:LC) (t:Tm) (r1:LC×Int) (r2:LT×Int) (depth:Int):Nat->Int->(LB)->Int->OS S
 |0=>fun _ _ _=> .none
 |m+1=>fun q j v55=>wS hd k I c0 c1 t r1 r2 depth (fV hd k I c0 c1 t r1 r2 depth m) q j v55
def HF (hd:c8 S) (k:Nat) (I:Tm×Int->OS S) (J0:(LC×Int)->(LT×Int)->Int->(LB)->Int->OS S) (t:Tm) (depth c0:Int) (c1:LC):OS S:=aa k (yG k (ac t) depth c0 c1) fun r1=>ab (!(r1.2==0)) (I ((Tm.mk 0 0 alH [] [] []),r1.2)) (aa k (DL hd k t.kids depth c0 c1 (ac t)) fun j=>ab (!(j.2==0)) (I ((Tm.mk 0 0 alH [] [] []),j.2)) (ab (t.kind==15) (J0 r1 j 1 ([]:LB) 0) (J0 r1 j 0 ([]:LB) 0)))
def d7:Nat->Tm->Int->Int->(LC)->(Tm×Int->OS S)->OS S
 |0=>fun _ _ _ _ _=> .none
 |k+1=>fun t depth c0 c1 I=>HF (d7 k) k I (fun r1 x q j v55=>fV (d7 k) k I c0 c1 t r1 x depth k q j v55) t depth c0 c1
def DE (k:Nat) (i:Int) (I:Int->OS S):OS S:=I i
def pk (k:Nat) (s i:Int) (I:Int->OS S):OS S:=aa k (nd k i) fun r1=>ab (!r1) (I (bj .and .u32 s 16777215)) (aa k (pn k i) fun j=>asP (bR (0<=(su .u64 (su .i64 (i+1))))) fun x3=>asP (bR (0<=(su .u64 i))) fun x4=>I (bj .or .u32 (bj .and .u32 (bj .and .u32 s 16777215) j) (su .u32 ((Int.fdiv (bj .and .u32 s 16777215) (2^min (arM (su .u64 (su .i64 (i+1)))) 32))*2^min (arM (su .u64 i)) 32))))
def wN (k:Nat) (I:LC×Int->OS S) (c0 depth:Int) (f:LC) (q:Int->(LC)->OS S) (v12:Int) (j:LC):OS S:=ab (decide ((v12:Int)<(f.length:Int))) (asP (af f v12) fun x1=>aa k (pk k x1.pos (su .i64 (c0+depth))) fun x=>aa k (pk k x1.neg (su .i64 (c0+depth))) fun z=>asP (aw 1099511627776 j.length [(Cl.mk x z)].length) fun x4=>q (su .i64 (v12+1)) (j++[(Cl.mk x z)])) (aa k (gy k j) fun A=>I (A.1,A.2))
def avL (k:Nat) (I:LC×Int->OS S) (c0 depth:Int) (f:LC):Nat->Int->(LC)->OS S
 |0=>fun _ _=> .none
 |m+1=>fun v12 j=>wN k I c0 depth f (avL k I c0 depth f m) v12 j
def Hx (k:Nat) (I:LC×Int->OS S) (J0:Int->(LC)->OS S) (f:LC) (depth c0:Int):OS S:=J0 0 ([]:LC)
def pc (k:Nat) (f:LC) (depth c0:Int) (I:LC×Int->OS S):OS S:=Hx k I (fun v12 j=>avL k I c0 depth f k v12 j) f depth c0
def yH (k:Nat) (t:Tm) (depth c0:Int) (I:LC×Int->OS S):OS S:=ab (t.kind==14) (aa k (pc k t.r depth c0) fun r1=>I (r1.1,r1.2)) (aa k (pc k t.r depth c0) fun j=>I (j.1,j.2))
abbrev c_ (S:Type):=Tm->Int->Int->(Tm×Int->OS S)->OS S
def wO (hd:c_ S) (k:Nat) (I:LT×Int->OS S) (c0 c1:Int) (l:LT) (depth:Int) (q:(LT)->Int->OS S) (j:LT) (v17:Int):OS S:=ab (decide ((v17:Int)<(l.length:Int))) (asP (af l v17) fun x1=>aa k (tH k v17 c1) fun z=>hd (ac x1) (su .i64 (depth+z)) c0 fun x=>ab (!(x.2==0)) (I (([]:LT),x.2)) (asP (aw 1099511627776 j.length [(ac x.1)].length) fun x4=>q (j++[(ac x.1)]) (su .i64 (v17+1)))) (I (j,0))
def lU (hd:c_ S) (k:Nat) (I:LT×Int->OS S) (c0 c1:Int) (l:LT) (depth:Int):Nat->(LT)->Int->OS S
 |0=>fun _ _=> .none
 |m+1=>fun j v17=>wO hd k I c0 c1 l depth (lU hd k I c0 c1 l depth m) j v17
def Hz (hd:c_ S) (k:Nat) (I:LT×Int->OS S) (J0:(LT)->Int->OS S) (l:LT) (depth c0 c1:Int):OS S:=J0 ([]:LT) 0
def DI (hd:c_ S) (k:Nat) (l:LT) (depth c0 c1:Int) (I:LT×Int->OS S):OS S:=Hz hd k I (fun j v17=>lU hd k I c0 c1 l depth k j v17) l depth c0 c1
def wP (hd:c_ S) (k:Nat) (I:LT×Int->OS S) (c0:Int) (c1:Tm) (l:LT) (depth:Int) (q:(LT)->Int->OS S) (j:LT) (v17:Int):OS S:=ab (decide ((v17:Int)<(l.length:Int))) (asP (af l v17) fun x1=>aa k (tG k v17 (ac c1)) fun z=>hd (ac x1) (su .i64 (depth+z)) c0 fun x=>ab (!(x.2==0)) (I (([]:LT),x.2)) (asP (aw 1099511627776 j.length [(ac x.1)].length) fun x4=>q (j++[(ac x.1)]) (su .i64 (v17+1)))) (I (j,0))
def lV (hd:c_ S) (k:Nat) (I:LT×Int->OS S) (c0:Int) (c1:Tm) (l:LT) (depth:Int):Nat->(LT)->Int->OS S
 |0=>fun _ _=> .none
 |m+1=>fun j v17=>wP hd k I c0 c1 l depth (lV hd k I c0 c1 l depth m) j v17
def HA (hd:c_ S) (k:Nat) (I:LT×Int->OS S) (J0:(LT)->Int->OS S) (l:LT) (depth c0:Int) (c1:Tm):OS S:=J0 ([]:LT) 0
def DJ (hd:c_ S) (k:Nat) (l:LT) (depth c0:Int) (c1:Tm) (I:LT×Int->OS S):OS S:=HA hd k I (fun j v17=>lV hd k I c0 c1 l depth k j v17) l depth c0 c1
def wT (hd:c_ S) (k:Nat) (I:Tm×Int->OS S) (c0:Int) (t:Tm) (r1:LC×Int) (r2:LT×Int) (depth:Int) (q:Int->(LB)->Int->OS S) (x:Int) (j:LB) (v55:Int):OS S:=ab (decide ((v55:Int)<(t.sys.length:Int))) (asP (af t.sys v55) fun x3=>aa k (pc k x3.face depth c0) fun z=>ab (!(z.2==0)) (I ((Tm.mk 0 0 alH [] [] []),z.2)) (ab ((z.1.length:Int)==0) (q x j (su .i64 (v55+1))) (aa k (DI hd k x3.kids depth c0 x) fun A=>ab (!(A.2==0)) (I ((Tm.mk 0 0 alH [] [] []),A.2)) (asP (aw 1099511627776 j.length [(Br.mk z.1 A.1)].length) fun x6=>q x (j++[(Br.mk z.1 A.1)]) (su .i64 (v55+1)))))) (I ((Tm.mk t.kind t.n t.name r1.1 r2.1 j),0))
def fW (hd:c_ S) (k:Nat) (I:Tm×Int->OS S) (c0:Int) (t:Tm) (r1:LC×Int) (r2:LT×Int) (depth:Int):Nat->Int->(LB)->Int->OS S
 |0=>fun _ _ _=> .none
 |m+1=>fun q j v55=>wT hd k I c0 t r1 r2 depth (fW hd k I c0 t r1 r2 depth m) q j v55
def HG (hd:c_ S) (k:Nat) (I:Tm×Int->OS S) (J0:(LC×Int)->(LT×Int)->Int->(LB)->Int->OS S) (t:Tm) (depth c0:Int):OS S:=aa k (yH k (ac t) depth c0) fun r1=>ab (!(r1.2==0)) (I ((Tm.mk 0 0 alH [] [] []),r1.2)) (aa k (DJ hd k t.kids depth c0 (ac t)) fun j=>ab (!(j.2==0)) (I ((Tm.mk 0 0 alH [] [] []),j.2)) (ab (t.kind==15) (J0 r1 j 1 ([]:LB) 0) (J0 r1 j 0 ([]:LB) 0)))
def dT:Nat->Tm->Int->Int->(Tm×Int->OS S)->OS S
 |0=>fun _ _ _ _=> .none
 |k+1=>fun t depth c0 I=>HG (dT k) k I (fun r1 x q j v55=>fW (dT k) k I c0 t r1 x depth k q j v55) t depth c0
def m_ (k:Nat) (t:Tm) (i:Int) (a_r:LC) (I:Tm×Int->OS S):OS S:=aa k (DM k (ac t) i a_r) fun r1=>ab (!(r1==0)) (I ((Tm.mk 0 0 alH [] [] []),r1)) (aa k (jV k a_r i 1) fun j=>ab (!(j.2==0)) (I ((Tm.mk 0 0 alH [] [] []),j.2)) (aa k (DF k i j.1) fun x=>d7 k (ac t) 0 x.1 x.2 fun q=>ab (!(q.2==0)) (I ((Tm.mk 0 0 alH [] [] []),q.2)) (aa k (DE k i) fun A=>dT k (ac q.1) 0 A fun z=>I ((ac z.1),z.2))))
def JL (k:Nat) (t:Tm) (a_r:LC) (c0:Int) (I:Tm×Int->OS S):OS S:=aa k (dG k c0) fun r1=>ab (!r1) (I ((Tm.mk 0 0 alH [] [] []),c0)) (aa k (m_ k (ac t) 0 a_r) fun j=>aa k (asH k (ac j.1) j.2 c0) fun q=>I ((ac q.1),q.2))
def JI (k:Nat) (t:Tm) (c0:Int) (I:Tm×Int->OS S):OS S:=aa k (au3 k) fun r1=>aa k (JL k (ac t) r1 c0) fun j=>I ((ac j.1),j.2)
def zc (k:Nat) (kind:Int) (kids:LT) (I:Int×Int×BA×LT->OS S):OS S:=I (kind,0,alH,kids)
def aJ (k:Nat) (t:Tm) (c0:Int) (I:Tm×Bool×Int->OS S):OS S:=aa k (cS k t.sys) fun r1=>ab (decide ((r1:Int)<0)) (I ((Tm.mk 0 0 alH [] [] []),false,c0)) (asP (af t.sys r1) fun x2=>ab (t.kind==15) (asP (af x2.kids 0) fun x3=>aa k (JI k (ac x3) c0) fun z=>I ((ac z.1),true,z.2)) (ab (t.kind==18) (asP (af x2.kids 0) fun x5=>aa k (zc k 9 [(ac x5)]) fun j=>asP (af t.kids 0) fun A=>aa k (zc k 6 [(Tm.mk j.1 j.2.1 j.2.2.1 [] j.2.2.2 []),(ac A)]) fun q=>I ((Tm.mk q.1 q.2.1 q.2.2.1 [] q.2.2.2 []),true,c0)) (ab (t.kind==16) (asP (af x2.kids 0) fun B=>I ((ac B),true,c0)) (ab (t.kind==17) (asP (af x2.kids 0) fun x=>I ((ac x),true,c0)) (I ((Tm.mk 0 0 alH [] [] []),false,c0))))))
def aW (k:Nat) (a_r:LC) (I:Int->OS S):OS S:=ab ((a_r.length:Int)==0) (I 0) (ab ((a_r.length:Int)==1) (asP (af a_r 0) fun x1=>ab ((x1.pos==0)&&((x1.neg==0)&&true)) (I 1) (I (-1))) (I (-1)))
def cA (k:Nat) (t:Tm) (c0:Int) (I:Tm×Bool×Int->OS S):OS S:=aa k (aW k t.r) fun r1=>ab (decide ((r1:Int)>=0)) (asP (af t.kids (su .i64 (1+r1))) fun x2=>I ((ac x2),true,c0)) (asP (af t.kids 0) fun x3=>ab (x3.kind==12) (asP (af t.kids 0) fun x4=>asP (af x4.kids 0) fun x5=>aa k (JL k (ac x5) t.r c0) fun j=>I ((ac j.1),true,j.2)) (I ((Tm.mk 0 0 alH [] [] []),false,c0)))
def bA (k:Nat) (t:Tm) (I:Tm×Bool->OS S):OS S:=aa k (aW k t.r) fun r1=>ab (decide ((r1:Int)<0)) (I ((Tm.mk 0 0 alH [] [] []),false)) (ab (t.kind==21) (aa k (zc k 20 ([]:LT)) fun j=>I ((Tm.mk j.1 j.2.1 j.2.2.1 [] j.2.2.2 []),true)) (ab (r1==0) (aa k (zc k 24 ([]:LT)) fun q=>I ((Tm.mk q.1 q.2.1 q.2.2.1 [] q.2.2.2 []),true)) (aa k (zc k 25 ([]:LT)) fun x=>I ((Tm.mk x.1 x.2.1 x.2.2.1 [] x.2.2.2 []),true))))
def tO (k:Nat) (kind:Int) (a_r:LC) (kids:LT) (I:Int×Int×BA×LC×LT->OS S):OS S:=I (kind,0,alH,a_r,kids)
def axm (k:Nat) (t:Tm) (I:Tm×Bool->OS S):OS S:=asP (af t.kids 3) fun x1=>ab (x1.kind==20) (asP (af t.kids 1) fun x2=>I ((ac x2),true)) (ab (x1.kind==21) (asP (af t.kids 2) fun x3=>asP (af t.kids 1) fun x4=>asP (af t.kids 1) fun x5=>aa k (tO k 13 x1.r [(ac x3),(ac x4),(ac x5)]) fun j=>I ((Tm.mk j.1 j.2.1 j.2.2.1 j.2.2.2.1 j.2.2.2.2 []),true)) (I ((Tm.mk 0 0 alH [] [] []),false)))
def axn (k:Nat) (t:Tm) (I:Tm×Bool->OS S):OS S:=asP (af t.kids 4) fun x1=>ab (x1.kind==24) (asP (af t.kids 1) fun x2=>I ((ac x2),true)) (ab (x1.kind==25) (asP (af t.kids 2) fun x3=>I ((ac x3),true)) (ab (x1.kind==26) (asP (af t.kids 3) fun x4=>asP (af x1.kids 0) fun x5=>aa k (zc k 6 [(ac x4),(ac x5)]) fun q=>asP (af t.kids 1) fun x=>asP (af t.kids 2) fun z=>aa k (tO k 13 x1.r [(Tm.mk q.1 q.2.1 q.2.2.1 [] q.2.2.2 []),(ac x),(ac z)]) fun j=>I ((Tm.mk j.1 j.2.1 j.2.2.1 j.2.2.2.1 j.2.2.2.2 []),true)) (I ((Tm.mk 0 0 alH [] [] []),false))))
def cD (k:Nat) (t:Tm) (c0:Int) (I:Tm×Bool×Int->OS S):OS S:=ab (t.kind==6) (asP (af t.kids 0) fun x1=>ab (x1.kind==5) (asP (af t.kids 0) fun x2=>asP (af x2.kids 0) fun x3=>asP (af t.kids 1) fun x4=>aa k (za k (ac x3) (ac x4) c0) fun r5=>I ((ac r5.1),true,r5.2)) (aa k (aJ k (ac t) c0) fun L=>I ((ac L.1),L.2.1,L.2.2))) (ab (t.kind==9) (asP (af t.kids 0) fun x7=>ab (x7.kind==8) (asP (af t.kids 0) fun x8=>asP (af x8.kids (su .i64 (t.kind-9))) fun x9=>I ((ac x9),true,c0)) (aa k (aJ k (ac t) c0) fun q=>I ((ac q.1),q.2.1,q.2.2))) (ab (t.kind==10) (asP (af t.kids 0) fun M=>ab (M.kind==8) (asP (af t.kids 0) fun O=>asP (af O.kids (su .i64 (t.kind-9))) fun T=>I ((ac T),true,c0)) (aa k (aJ k (ac t) c0) fun r14=>I ((ac r14.1),r14.2.1,r14.2.2))) (ab (t.kind==13) (aa k (cA k (ac t) c0) fun x=>I ((ac x.1),x.2.1,x.2.2)) (ab (t.kind==21) (aa k (bA k (ac t)) fun B=>I ((ac B.1),B.2,c0)) (ab (t.kind==26) (aa k (bA k (ac t)) fun E=>I ((ac E.1),E.2,c0)) (ab (t.kind==22) (aa k (axm k (ac t)) fun F=>I ((ac F.1),F.2,c0)) (ab (t.kind==27) (aa k (axn k (ac t)) fun J=>I ((ac J.1),J.2,c0)) (ab (t.kind==28) (asP (af t.kids 0) fun W=>I ((ac W),true,c0)) (ab (t.kind==14) (asP (af t.kids 1) fun Y=>aa k (aW k t.r) fun ad=>I ((ac Y),ad==1,c0)) (ab (t.kind==18) (aa k (aJ k (ac t) c0) fun j=>ab (j.2.1) (I ((ac j.1),true,j.2.2)) (asP (af t.kids 0) fun ao=>ab (ao.kind==17) (asP (af t.kids 0) fun ax=>asP (af ax.kids 0) fun az=>I ((ac az),true,j.2.2)) (aa k (aJ k (ac t) j.2.2) fun z=>I ((ac z.1),z.2.1,z.2.2)))) (aa k (aJ k (ac t) c0) fun A=>I ((ac A.1),A.2.1,A.2.2))))))))))))
def ly (k:Nat) (t:Tm) (c0:Int) (I:Tm×Bool×Int×Int->OS S):OS S:=aa k (asi k (ac t)) fun r1=>aa k (asH k (ac t) r1 c0) fun j=>dJ k (ac j.1) fun q=>aa k (dG k j.2) fun x=>I ((ac q),x,j.2,j.2)
def axl (k:Nat) (t:Tm) (I:Tm×Bool×Int->OS S):OS S:=aa k (asi k (ac t)) fun r1=>ab (!(r1==0)) (I ((Tm.mk 0 0 alH [] [] []),false,r1)) (dJ k (ac t) fun x=>aa k (cD k (ac x) 0) fun j=>ab (!j.2.1) (I ((Tm.mk 0 0 alH [] [] []),false,0)) (aa k (ly k (ac j.1) j.2.2) fun q=>I ((ac q.1),q.2.1,q.2.2.1)))
def anX (k:Nat) (t:Tm) (vars dims:Int) (I:Int->OS S):OS S:=ab (decide ((vars:Int)<0)) (I 2) (ab (decide ((dims:Int)<0)) (I 2) (ab (decide ((dims:Int)>24)) (I 2) (aa k (zD k (ac t)) fun r1=>ab (!(r1==0)) (I r1) (ic k (ac t) vars dims true fun j=>ab (!j) (I 100) (I 0)))))
def cr (k:Nat) (I:Tm×Bool->OS S) (t:Tm) (defs:List Df) (q:Int->OS S) (j:Int):OS S:=ab (decide ((j:Int)<(defs.length:Int))) (asP (af defs j) fun x1=>ab (x1.name==t.name) (dJ k (ac x1.body) fun x=>aa k (anX k (ac x1.body) 0 0) fun z=>I ((ac x),z==0)) (q (su .i64 (j+1)))) (I ((Tm.mk 0 0 alH [] [] []),false))
def bM (k:Nat) (I:Tm×Bool->OS S) (t:Tm) (defs:List Df):Nat->Int->OS S
 |0=>fun _=> .none
 |m+1=>fun j=>cr k I t defs (bM k I t defs m) j
def aAq (k:Nat) (I:Tm×Bool->OS S) (J0:Int->OS S) (defs:List Df) (t:Tm):OS S:=ab (!(t.kind==2)) (I ((Tm.mk 0 0 alH [] [] []),false)) (J0 0)
def cR (k:Nat) (defs:List Df) (t:Tm) (I:Tm×Bool->OS S):OS S:=aAq k I (fun j=>bM k I t defs k j) defs t
def arj (k:Nat) (kind:Int) (kids:LT) (I:Int×Int×BA×LT->OS S):OS S:=I (kind,0,alH,kids)
def avu (k:Nat) (sys:LB) (I:Int×Int×BA×LT×LB->OS S):OS S:=aa k (arj k 3 ([]:LT)) fun r1=>aa k (arj k 3 ([]:LT)) fun j=>I (15,0,alH,[(Tm.mk r1.1 r1.2.1 r1.2.2.1 [] r1.2.2.2 []),(Tm.mk j.1 j.2.1 j.2.2.1 [] j.2.2.2 [])],sys)
def iZ (k:Nat) (a_e c0:Int) (I:Int->OS S):OS S:=ab (c0==0) (I a_e) (I c0)
def wL (k:Nat) (I:Int->OS S) (l:LT) (j:Int->Int->OS S) (q v10:Int):OS S:=ab (decide ((v10:Int)<(l.length:Int))) (asP (af l v10) fun x1=>aa k (asi k (ac x1)) fun x=>aa k (iZ k x q) fun z=>j z (su .i64 (v10+1))) (I q)
def pY (k:Nat) (I:Int->OS S) (l:LT):Nat->Int->Int->OS S
 |0=>fun _ _=> .none
 |m+1=>fun j v10=>wL k I l (pY k I l m) j v10
def Hs (k:Nat) (I:Int->OS S) (J0:Int->Int->OS S) (l:LT):OS S:=J0 0 0
def m9 (k:Nat) (l:LT) (I:Int->OS S):OS S:=Hs k I (fun j v10=>pY k I l k j v10) l
def de (k:Nat) (c0:Int) (I:Bool->OS S):OS S:=I (c0==0)
def arP (k:Nat) (t:Tm) (vars dims c0:Int) (I:Tm×Int->OS S):OS S:=aa k (de k c0) fun r1=>ab (!r1) (I ((Tm.mk 0 0 alH [] [] []),c0)) (aa k (lu k (ac t) vars dims) fun j=>aa k (iZ k j.2 c0) fun q=>I ((ac j.1),q))
def eQ (k:Nat) (t:Tm) (c0:Int) (I:Tm×Int×Int->OS S):OS S:=aa k (de k c0) fun r1=>ab (r1) (aa k (asi k (ac t)) fun q=>aa k (iZ k q c0) fun j=>aa k (de k j) fun x=>ab (!x) (I ((Tm.mk 0 0 alH [] [] []),j,j)) (I ((ac t),0,j))) (aa k (de k c0) fun z=>ab (!z) (I ((Tm.mk 0 0 alH [] [] []),c0,c0)) (I ((ac t),0,c0)))
def tA (k:Nat) (f:LC) (c0:Int) (I:LC×Int->OS S):OS S:=aa k (de k c0) fun r1=>ab (!r1) (I (([]:LC),c0)) (aa k (jV k f 0 1) fun j=>aa k (iZ k j.2 c0) fun q=>I (j.1,q))
def yX (k:Nat) (c0:Int) (c1:Tm) (c2:Int) (I:Pan Int Tm->OS S):OS S:=dk k 0 c0 (ac c1) 0 (if 24<c2 then 24 else c2) fun j=>Pan.elim j (fun j=>I (.ok (ac j))) (fun q=>I (.pan q))
def xa (k:Nat) (I:Tm×Int->OS S) (c0:Int) (c1:Tm) (c2:Int) (numbers:List Int) (q:Int->OS S) (j:Int):OS S:=ab (decide ((j:Int)<(numbers.length:Int))) (asP (af numbers j) fun x2=>ab (decide ((x2:Int)<0)) (I ((Tm.mk 0 0 alH [] [] []),2)) (q (su .i64 (j+1)))) (aa k (yX k c0 (ac c1) c2) fun x=>Pan.elim x (fun x=>I ((ac x),0)) (fun z=>I ((Tm.mk 0 0 alH [] [] []),z)))
def nC (k:Nat) (I:Tm×Int->OS S) (c0:Int) (c1:Tm) (c2:Int) (numbers:List Int):Nat->Int->OS S
 |0=>fun _=> .none
 |m+1=>fun j=>xa k I c0 c1 c2 numbers (nC k I c0 c1 c2 numbers m) j
def BQ (k:Nat) (I:Tm×Int->OS S) (J0:Int->OS S) (t:Tm) (numbers:List Int) (c0:Int) (c1:Tm) (c2:Int):OS S:=aa k (asi k (ac t)) fun r1=>ab (!(r1==0)) (I ((Tm.mk 0 0 alH [] [] []),r1)) (J0 0)
def yZ (k:Nat) (t:Tm) (numbers:List Int) (c0:Int) (c1:Tm) (c2:Int) (I:Tm×Int->OS S):OS S:=BQ k I (fun j=>nC k I c0 c1 c2 numbers k j) t numbers c0 c1 c2
def lv (k:Nat) (t:Tm) (a_from a_by:Int) (I:Tm×Int->OS S):OS S:=aa k (yZ k (ac t) [a_from,a_by] a_by (ac t) a_from) fun r1=>I ((ac r1.1),r1.2)
def lr (k:Nat) (line:Tm) (a_r:LC) (c0:Int) (I:Tm×Int->OS S):OS S:=aa k (de k c0) fun r1=>ab (!r1) (I ((Tm.mk 0 0 alH [] [] []),c0)) (aa k (lv k (ac line) 1 2) fun q=>aa k (iZ k q.2 c0) fun j=>aa k (de k j) fun z=>ab (!z) (I ((Tm.mk 0 0 alH [] [] []),j)) (aa k (m_ k (ac q.1) 0 a_r) fun x=>aa k (iZ k x.2 j) fun A=>I ((ac x.1),A)))
def oQ (k:Nat) (I:Tm×Int->OS S) (a:Tm) (x:Int×Int×BA×LT) (sys:LB) (E:Int->(LB)->Int->OS S) (q:Int) (j:LB) (z:Int):OS S:=ab (decide ((z:Int)<(sys.length:Int))) (asP (af sys z) fun x6=>aa k (de k q) fun O=>ab (!O) (aa k (arP k (ac a) 0 2 q) fun L=>asP (aw 1099511627776 j.length [(Br.mk [(Cl.mk 0 1)] [(ac L.1)])].length) fun Y=>aa k (eQ k (Tm.mk x.1 x.2.1 x.2.2.1 [] x.2.2.2 (j++[(Br.mk [(Cl.mk 0 1)] [(ac L.1)])])) L.2) fun F=>I ((ac F.1),F.2.1)) (aa k (tA k x6.face q) fun A=>asP (af x6.kids 0) fun M=>aa k (lr k (ac M) [(Cl.mk 3 0)] A.2) fun r13=>asP (aw 1099511627776 j.length [(Br.mk A.1 [(ac r13.1)])].length) fun T=>E r13.2 (j++[(Br.mk A.1 [(ac r13.1)])]) (su .i64 (z+1)))) (aa k (arP k (ac a) 0 2 q) fun B=>asP (aw 1099511627776 j.length [(Br.mk [(Cl.mk 0 1)] [(ac B.1)])].length) fun W=>aa k (eQ k (Tm.mk x.1 x.2.1 x.2.2.1 [] x.2.2.2 (j++[(Br.mk [(Cl.mk 0 1)] [(ac B.1)])])) B.2) fun J=>I ((ac J.1),J.2.1))
def gM (k:Nat) (I:Tm×Int->OS S) (a:Tm) (z:Int×Int×BA×LT) (sys:LB):Nat->Int->(LB)->Int->OS S
 |0=>fun _ _ _=> .none
 |m+1=>fun q j x=>oQ k I a z sys (gM k I a z sys m) q j x
def Hr (k:Nat) (I:Tm×Int->OS S) (J0:(Int×Int×BA×LT)->Int->(LB)->Int->OS S) (t a:Tm) (sys:LB):OS S:=aa k (avu k sys) fun r1=>aa k (m9 k [(ac t),(ac a),(Tm.mk r1.1 r1.2.1 r1.2.2.1 [] r1.2.2.2.1 r1.2.2.2.2)]) fun x=>aa k (arP k (ac t) 0 1 x) fun j=>aa k (arP k (ac a) 0 1 j.2) fun q=>aa k (arj k 15 [(ac j.1),(ac q.1)]) fun z=>J0 z q.2 ([]:LB) 0
def yy (k:Nat) (t a:Tm) (sys:LB) (I:Tm×Int->OS S):OS S:=Hr k I (fun z q j x=>gM k I a z sys k q j x) t a sys
def y_ (k:Nat) (t a:Tm) (sys:LB) (c0:Int) (I:Tm×Int->OS S):OS S:=aa k (dG k c0) fun r1=>ab (!r1) (I ((Tm.mk 0 0 alH [] [] []),c0)) (aa k (yy k (ac t) (ac a) sys) fun j=>aa k (asH k (ac j.1) j.2 c0) fun q=>I ((ac q.1),q.2))
def yY (k:Nat) (c0:Int) (c1:Tm) (c2:Int) (I:Pan Int Tm->OS S):OS S:=dk k c0 0 (ac c1) (if 2000000000<c2 then 2000000000 else c2) 0 fun j=>Pan.elim j (fun j=>I (.ok (ac j))) (fun q=>I (.pan q))
def xb (k:Nat) (I:Tm×Int->OS S) (c0:Int) (c1:Tm) (c2:Int) (numbers:List Int) (q:Int->OS S) (j:Int):OS S:=ab (decide ((j:Int)<(numbers.length:Int))) (asP (af numbers j) fun x2=>ab (decide ((x2:Int)<0)) (I ((Tm.mk 0 0 alH [] [] []),2)) (q (su .i64 (j+1)))) (aa k (yY k c0 (ac c1) c2) fun x=>Pan.elim x (fun x=>I ((ac x),0)) (fun z=>I ((Tm.mk 0 0 alH [] [] []),z)))
def nD (k:Nat) (I:Tm×Int->OS S) (c0:Int) (c1:Tm) (c2:Int) (numbers:List Int):Nat->Int->OS S
 |0=>fun _=> .none
 |m+1=>fun j=>xb k I c0 c1 c2 numbers (nD k I c0 c1 c2 numbers m) j
def BR (k:Nat) (I:Tm×Int->OS S) (J0:Int->OS S) (t:Tm) (numbers:List Int) (c0:Int) (c1:Tm) (c2:Int):OS S:=aa k (asi k (ac t)) fun r1=>ab (!(r1==0)) (I ((Tm.mk 0 0 alH [] [] []),r1)) (J0 0)
def axS (k:Nat) (t:Tm) (numbers:List Int) (c0:Int) (c1:Tm) (c2:Int) (I:Tm×Int->OS S):OS S:=BR k I (fun j=>nD k I c0 c1 c2 numbers k j) t numbers c0 c1 c2
def avD (k:Nat) (t:Tm) (a_from a_by:Int) (I:Tm×Int->OS S):OS S:=aa k (axS k (ac t) [a_from,a_by,su .i64 (1000000-a_by)] a_by (ac t) a_from) fun r1=>I ((ac r1.1),r1.2)
def y8 (k:Nat) (t:Tm) (vars dims c0:Int) (I:Tm×Int->OS S):OS S:=aa k (dG k c0) fun r1=>ab (!r1) (I ((Tm.mk 0 0 alH [] [] []),c0)) (aa k (avD k (ac t) 1 vars) fun q=>aa k (asH k (ac q.1) q.2 c0) fun j=>aa k (dG k j.2) fun A=>ab (!A) (I ((Tm.mk 0 0 alH [] [] []),j.2)) (aa k (lv k (ac j.1) 0 dims) fun x=>aa k (asH k (ac x.1) x.2 j.2) fun z=>I ((ac z.1),z.2)))
def zb (k:Nat) (t:Tm) (vars dims c0:Int) (I:Tm×Int->OS S):OS S:=aa k (dG k c0) fun r1=>ab (!r1) (I ((Tm.mk 0 0 alH [] [] []),c0)) (aa k (lu k (ac t) vars dims) fun j=>aa k (asH k (ac j.1) j.2 c0) fun q=>I ((ac q.1),q.2))
def aBi (k:Nat) (I:Int×Int×BA×LT×Int->OS S) (c0:Tm) (c1:Int) (a_x:Tm) (a_by:Int) (q:Int->(LT)->Int->OS S) (x:Int) (j:LT) (v20:Int):OS S:=ab (decide ((v20:Int)<((List.drop (arM 1) (List.take (arM c1) c0.kids)).length:Int))) (asP (af (List.drop (arM 1) (List.take (arM c1) c0.kids)) v20) fun x2=>ab (decide ((a_by:Int)>0)) (aa k (zb k (ac x2) 0 a_by x) fun A=>asP (aw 1099511627776 j.length [(ac A.1)].length) fun x4=>q A.2 (j++[(ac A.1)]) (su .i64 (v20+1))) (asP (aw 1099511627776 j.length [(ac x2)].length) fun x5=>q x (j++[(ac x2)]) (su .i64 (v20+1)))) (asP (aw 1099511627776 j.length [(ac a_x)].length) fun x6=>aa k (zc k c0.kind (j++[(ac a_x)])) fun z=>I (z.1,z.2.1,z.2.2.1,z.2.2.2,x))
def auv (k:Nat) (I:Int×Int×BA×LT×Int->OS S) (c0:Tm) (c1:Int) (a_x:Tm) (a_by:Int):Nat->Int->(LT)->Int->OS S
 |0=>fun _ _ _=> .none
 |m+1=>fun q j v20=>aBi k I c0 c1 a_x a_by (auv k I c0 c1 a_x a_by m) q j v20
def BP (k:Nat) (I:Int×Int×BA×LT×Int->OS S) (J0:Int->(LT)->Int->OS S) (p:Tm) (a_by:Int) (a_x c0:Tm) (c1 c3:Int):OS S:=asP (bR (0<=(1:Int)/\(1:Int)<=c1/\c1<=(c0.kids.length:Int))) fun x1=>J0 c3 [(ac p)] 0
def nc (k:Nat) (p:Tm) (a_by:Int) (a_x c0:Tm) (c1 c3:Int) (I:Int×Int×BA×LT×Int->OS S):OS S:=BP k I (fun q j v20=>auv k I c0 c1 a_x a_by k q j v20) p a_by a_x c0 c1 c3
def aq3 (k:Nat) (f:LC) (kids:LT) (I:(Br Tm)->OS S):OS S:=I (Br.mk f kids)
def yz (k:Nat) (line:Tm) (c0:Int) (I:Tm×Int->OS S):OS S:=aa k (de k c0) fun r1=>ab (!r1) (I ((Tm.mk 0 0 alH [] [] []),c0)) (aa k (au3 k) fun q=>aa k (m_ k (ac line) 0 q) fun j=>aa k (iZ k j.2 c0) fun x=>I ((ac j.1),x))
def oP (k:Nat) (I:Tm×Int->OS S) (r3:Tm) (r9:Int×Int×BA×LT) (r6:Tm) (A:Int->(LB)->Int->OS S) (x:Int) (q:LB) (v38:Int):OS S:=ab (decide ((v38:Int)<(r6.sys.length:Int))) (asP (af r6.sys v38) fun z=>aa k (de k x) fun F=>ab (!F) (aa k (eQ k (Tm.mk r9.1 r9.2.1 r9.2.2.1 [] r9.2.2.2 q) x) fun B=>I ((ac B.1),B.2.1)) (aa k (lr k (ac r3) [(Cl.mk 1 0),(Cl.mk 2 0)] x) fun r13=>asP (af z.kids 0) fun J=>aa k (arj k 14 [(ac r13.1),(ac J)]) fun j=>asP (aw 1099511627776 q.length [(Br.mk z.face [(Tm.mk j.1 j.2.1 j.2.2.1 [(Cl.mk 1 0)] j.2.2.2 [])])].length) fun L=>A r13.2 (q++[(Br.mk z.face [(Tm.mk j.1 j.2.1 j.2.2.1 [(Cl.mk 1 0)] j.2.2.2 [])])]) (su .i64 (v38+1)))) (aa k (eQ k (Tm.mk r9.1 r9.2.1 r9.2.2.1 [] r9.2.2.2 q) x) fun E=>I ((ac E.1),E.2.1))
def ko (k:Nat) (I:Tm×Int->OS S) (r3:Tm) (r9:Int×Int×BA×LT) (r6:Tm):Nat->Int->(LB)->Int->OS S
 |0=>fun _ _ _=> .none
 |m+1=>fun q j v38=>oP k I r3 r9 r6 (ko k I r3 r9 r6 m) q j v38
def Hq (k:Nat) (I:Tm×Int->OS S) (J0:Tm->(Int×Int×BA×LT)->Tm->Int->(LB)->Int->OS S) (line a:Tm) (sys:LB):OS S:=aa k (avu k sys) fun r1=>aa k (m9 k [(ac line),(ac a),(Tm.mk r1.1 r1.2.1 r1.2.2.1 [] r1.2.2.2.1 r1.2.2.2.2)]) fun A=>dJ k (ac line) fun x=>dJ k (ac a) fun B=>aa k (avu k sys) fun j=>dJ k (Tm.mk j.1 j.2.1 j.2.2.1 [] j.2.2.2.1 j.2.2.2.2) fun E=>aa k (yz k (ac x) A) fun z=>aa k (arj k 14 [(ac x),(ac B)]) fun q=>aa k (arj k 15 [(ac z.1),(Tm.mk q.1 q.2.1 q.2.2.1 [] q.2.2.2 [])]) fun F=>J0 x F E z.2 ([]:LB) 0
def yx (k:Nat) (line a:Tm) (sys:LB) (I:Tm×Int->OS S):OS S:=Hq k I (fun x z A q j v38=>ko k I x z A k q j v38) line a sys
def y9 (k:Nat) (line a:Tm) (sys:LB) (c0:Int) (I:Tm×Int->OS S):OS S:=aa k (dG k c0) fun r1=>ab (!r1) (I ((Tm.mk 0 0 alH [] [] []),c0)) (aa k (yx k (ac line) (ac a) sys) fun j=>aa k (asH k (ac j.1) j.2 c0) fun q=>I ((ac q.1),q.2))
def oR (k:Nat) (I:Tm×Bool×Int->OS S) (r3:Tm) (r9 r10:Tm×Int) (r13:Int×Int×BA×LT×Int) (t x4:Tm) (z:Int->(LB)->Int->OS S) (A:Int) (j:LB) (v90:Int):OS S:=ab (decide ((v90:Int)<(x4.sys.length:Int))) (asP (af x4.sys v90) fun B=>asP (af B.kids 0) fun J=>aa k (nc k (ac r9.1) 1 (ac J) (ac r3) (su .i64 ((t.kids.length:Int)-1)) A) fun q=>aa k (aq3 k B.face [(Tm.mk q.1 q.2.1 q.2.2.1 [] q.2.2.2.1 [])]) fun E=>asP (aw 1099511627776 j.length [E].length) fun L=>z q.2.2.2.2 (j++[E]) (su .i64 (v90+1))) (aa k (y9 k (ac r10.1) (Tm.mk r13.1 r13.2.1 r13.2.2.1 [] r13.2.2.2.1 []) j A) fun F=>aa k (ly k (ac F.1) F.2) fun x=>I ((ac x.1),x.2.1,x.2.2.1))
def fX (k:Nat) (I:Tm×Bool×Int->OS S) (r3:Tm) (r9 r10:Tm×Int) (r13:Int×Int×BA×LT×Int) (t x4:Tm):Nat->Int->(LB)->Int->OS S
 |0=>fun _ _ _=> .none
 |m+1=>fun q j x=>oR k I r3 r9 r10 r13 t x4 (fX k I r3 r9 r10 r13 t x4 m) q j x
def w_ (k:Nat) (I:Tm×Bool×Int->OS S) (t:Tm) (J1:Tm->(Tm×Int)->(Tm×Int)->(Int×Int×BA×LT×Int)->Tm->Int->(LB)->Int->OS S):OS S:=dJ k (ac t) fun j=>asP (af j.kids (su .i64 ((t.kids.length:Int)-1))) fun x4=>asP (af x4.kids 0) fun x5=>asP (af x4.kids 1) fun x6=>aa k (y_ k (ac x5) (ac x6) x4.sys 0) fun B=>asP (af j.kids 0) fun E=>aa k (y8 k (ac E) 0 1 B.2) fun x=>aa k (za k (ac x.1) (ac B.1) x.2) fun q=>asP (af j.kids 0) fun z=>asP (af x4.kids 1) fun A=>aa k (nc k (ac z) 0 (ac A) (ac j) (su .i64 ((t.kids.length:Int)-1)) q.2) fun r13=>J1 j x q r13 x4 r13.2.2.2.2 ([]:LB) 0
def l6 (k:Nat) (I:Tm×Bool×Int->OS S) (t:Tm):Nat->OS S
 |0=> .none
 |_+1=>w_ k I t (fun A B q r13 x4 x j z=>fX k I A B q r13 t x4 k x j z)
def HU (k:Nat) (I:Tm×Bool×Int->OS S) (J0:OS S) (t:Tm):OS S:=aa k (asi k (ac t)) fun r1=>ab (!(r1==0)) (I ((Tm.mk 0 0 alH [] [] []),false,r1)) (ab (!(t.kind==22)) (ab (!(t.kind==27)) (I ((Tm.mk 0 0 alH [] [] []),false,0)) (asP (af t.kids (su .i64 ((t.kids.length:Int)-1))) fun x2=>ab (!(x2.kind==15)) (I ((Tm.mk 0 0 alH [] [] []),false,0)) (J0))) (asP (af t.kids (su .i64 ((t.kids.length:Int)-1))) fun j=>ab (!(j.kind==15)) (I ((Tm.mk 0 0 alH [] [] []),false,0)) (J0)))
def tL (k:Nat) (t:Tm) (I:Tm×Bool×Int->OS S):OS S:=HU k I (l6 k I t k) t
def au5 (k:Nat) (a_n:Int) (I:Int×Int×BA->OS S):OS S:=I (1,a_n,alH)
def aw2 (k:Nat) (I:Int->OS S) (l:List (LC)) (j:Int->OS S) (q:Int):OS S:=ab (decide ((q:Int)<(l.length:Int))) (asP (af l q) fun x1=>aa k (pd k x1) fun x=>ab (!x) (I 2) (j (su .i64 (q+1)))) (I 0)
def avO (k:Nat) (I:Int->OS S) (l:List (LC)):Nat->Int->OS S
 |0=>fun _=> .none
 |m+1=>fun j=>aw2 k I l (avO k I l m) j
def az8 (k:Nat) (I:Int->OS S) (J0:Int->OS S) (l:List (LC)):OS S:=J0 0
def axw (k:Nat) (l:List (LC)) (I:Int->OS S):OS S:=az8 k I (fun j=>avO k I l k j) l
def axv (k:Nat) (f g:LC) (I:LC×Int->OS S):OS S:=aa k (axw k [f,g]) fun r1=>ab (!(r1==0)) (I (([]:LC),r1)) (aa k (yL k f g) fun j=>I (j.1,j.2))
def auH (k:Nat) (f g:LC) (c0:Int) (I:LC×Int->OS S):OS S:=aa k (de k c0) fun r1=>ab (!r1) (I (([]:LC),c0)) (aa k (axv k f g) fun j=>aa k (iZ k j.2 c0) fun q=>I (j.1,q))
def awn (k:Nat) (line:Tm) (phi:LC) (a:Tm) (a_end:Cl) (a_r:LC) (I:Tm×Int->OS S):OS S:=aa k (m9 k [(ac line),(ac a)]) fun r1=>aa k (pd k phi) fun M=>ab (!M) (aa k (iZ k 2 r1) fun O=>aa k (tA k phi O) fun B=>aa k (auH k B.1 [a_end] B.2) fun E=>aa k (lr k (ac line) a_r E.2) fun F=>aa k (arP k (ac a) 0 1 F.2) fun J=>aa k (arj k 14 [(ac F.1),(ac J.1)]) fun A=>aa k (eQ k (Tm.mk A.1 A.2.1 A.2.2.1 E.1 A.2.2.2 []) J.2) fun L=>I ((ac L.1),L.2.1)) (aa k (tA k phi r1) fun j=>aa k (auH k j.1 [a_end] j.2) fun q=>aa k (lr k (ac line) a_r q.2) fun x=>aa k (arP k (ac a) 0 1 x.2) fun r13=>aa k (arj k 14 [(ac x.1),(ac r13.1)]) fun r14=>aa k (eQ k (Tm.mk r14.1 r14.2.1 r14.2.2.1 q.1 r14.2.2.2 []) r13.2) fun z=>I ((ac z.1),z.2.1))
def axo (k:Nat) (line:Tm) (phi:LC) (a:Tm) (I:Tm×Int->OS S):OS S:=aa k (awn k (ac line) phi (ac a) (Cl.mk 1 0) [(Cl.mk 0 1),(Cl.mk 2 0)]) fun r1=>I ((ac r1.1),r1.2)
def axU (k:Nat) (line:Tm) (phi:LC) (a:Tm) (c0:Int) (I:Tm×Int->OS S):OS S:=aa k (dG k c0) fun r1=>ab (!r1) (I ((Tm.mk 0 0 alH [] [] []),c0)) (aa k (axo k (ac line) phi (ac a)) fun j=>aa k (asH k (ac j.1) j.2 c0) fun q=>I ((ac q.1),q.2))
def aup (k:Nat) (line a:Tm) (alJ:Int) (c0_1:LC) (sx wl:Int) (aas:BA) (abq:LC) (abZ:LT) (c0_7:LB) (I:Int×Int×BA×LC×LT->OS S):OS S:=aa k (tO k 14 c0_1 [(ac line),(ac a)]) fun r1=>I (r1.1,r1.2.1,r1.2.2.1,r1.2.2.2.1,r1.2.2.2.2)
def ax2 (k:Nat) (l:Tm) (alJ:Int) (c0_1:LC) (sx wl:Int) (aas:BA) (abq:LC) (abZ:LT) (c0_7:LB) (I:Int×Int×BA×LT×Int->OS S):OS S:=asP (af l.kids 0) fun x1=>aa k (zb k (ac x1) 1 0 alJ) fun E=>aa k (au5 k 0) fun z=>aa k (axU k (ac E.1) c0_1 (Tm.mk z.1 z.2.1 z.2.2 [] [] []) E.2) fun A=>asP (af l.kids 1) fun x5=>aa k (y8 k (ac x5) 1 0 A.2) fun F=>aa k (za k (ac F.1) (ac A.1) F.2) fun J=>aa k (zb k (Tm.mk sx wl aas abq abZ c0_7) 1 0 J.2) fun L=>aa k (JL k (ac A.1) ([]:LC) L.2) fun B=>aa k (zc k 6 [(ac L.1),(ac B.1)]) fun q=>aa k (aup k (ac J.1) (Tm.mk q.1 q.2.1 q.2.2.1 [] q.2.2.2 []) B.2 c0_1 sx wl aas abq abZ c0_7) fun j=>aa k (zc k 5 [(Tm.mk j.1 j.2.1 j.2.2.1 j.2.2.2.1 j.2.2.2.2 [])]) fun x=>I (x.1,x.2.1,x.2.2.1,x.2.2.2,B.2)
def axs (k:Nat) (line:Tm) (phi:LC) (a:Tm) (I:Tm×Int->OS S):OS S:=aa k (awn k (ac line) phi (ac a) (Cl.mk 0 1) [(Cl.mk 3 0)]) fun r1=>I ((ac r1.1),r1.2)
def awu (k:Nat) (line:Tm) (phi:LC) (a:Tm) (c0:Int) (I:Tm×Int->OS S):OS S:=aa k (dG k c0) fun r1=>ab (!r1) (I ((Tm.mk 0 0 alH [] [] []),c0)) (aa k (axs k (ac line) phi (ac a)) fun j=>aa k (asH k (ac j.1) j.2 c0) fun q=>I ((ac q.1),q.2))
def ax3 (k:Nat) (l:Tm) (alJ:Int) (c0_1:LC) (sx wl:Int) (aas:BA) (abq:LC) (abZ:LT) (c0_7:LB) (I:Int×Int×BA×LT×Int->OS S):OS S:=aa k (zc k 9 [(Tm.mk sx wl aas abq abZ c0_7)]) fun r1=>asP (af l.kids 1) fun x2=>asP (af l.kids 0) fun x3=>aa k (awu k (ac x3) c0_1 (Tm.mk r1.1 r1.2.1 r1.2.2.1 [] r1.2.2.2 []) alJ) fun B=>aa k (za k (ac x2) (ac B.1) B.2) fun z=>asP (af l.kids 0) fun x6=>aa k (aup k (ac x6) (Tm.mk r1.1 r1.2.1 r1.2.2.1 [] r1.2.2.2 []) z.2 c0_1 sx wl aas abq abZ c0_7) fun q=>aa k (zc k 10 [(Tm.mk sx wl aas abq abZ c0_7)]) fun A=>aa k (aup k (ac z.1) (Tm.mk A.1 A.2.1 A.2.2.1 [] A.2.2.2 []) z.2 c0_1 sx wl aas abq abZ c0_7) fun x=>aa k (zc k 8 [(Tm.mk q.1 q.2.1 q.2.2.1 q.2.2.2.1 q.2.2.2.2 []),(Tm.mk x.1 x.2.1 x.2.2.1 x.2.2.2.1 x.2.2.2.2 [])]) fun j=>I (j.1,j.2.1,j.2.2.1,j.2.2.2,z.2)
def ax0 (k:Nat) (t:Tm) (I:Tm×Int->OS S):OS S:=aa k (lv k (ac t) 2 1) fun r1=>ab (!(r1.2==0)) (I ((Tm.mk 0 0 alH [] [] []),r1.2)) (aa k (m_ k (ac r1.1) 0 [(Cl.mk 2 0)]) fun j=>I ((ac j.1),j.2))
def ax4 (k:Nat) (t:Tm) (alJ:Int) (c0_1:LC) (sx wl:Int) (aas:BA) (abq:LC) (abZ:LT) (c0_7:LB) (I:Tm×Int->OS S):OS S:=ab (!(alJ==0)) (I ((Tm.mk 0 0 alH [] [] []),alJ)) (aa k (ax0 k (ac t)) fun r1=>I ((ac r1.1),r1.2))
def aww (k:Nat) (a_by:Int) (a_r:Cl) (c1 c2:Tm) (arG:Int) (aqT:LC) (aqM aqN:Int) (aqO:BA) (aqP:LC) (aqQ:LT) (aqR:LB) (I:Int×Int×BA×LC×LT×Int->OS S):OS S:=aa k (zb k (Tm.mk aqM aqN aqO aqP aqQ aqR) 0 a_by arG) fun r1=>aa k (zb k (ac c1) 0 a_by r1.2) fun q=>aa k (zb k (ac c2) 0 a_by q.2) fun x=>aa k (tO k 13 [a_r] [(ac r1.1),(ac q.1),(ac x.1)]) fun j=>I (j.1,j.2.1,j.2.2.1,j.2.2.2.1,j.2.2.2.2,x.2)
def JK (k:Nat) (f:LC) (a_by c0:Int) (I:LC×Int->OS S):OS S:=aa k (dG k c0) fun r1=>ab (!r1) (I (([]:LC),c0)) (aa k (jV k f 0 a_by) fun j=>aa k (asH k (Tm.mk 0 0 alH [] [] []) j.2 c0) fun q=>I (j.1,q.2))
def JJ (k:Nat) (t:Tm) (a_by c0:Int) (I:Tm×Int->OS S):OS S:=aa k (dG k c0) fun r1=>ab (!r1) (I ((Tm.mk 0 0 alH [] [] []),c0)) (aa k (lv k (ac t) 1 a_by) fun j=>aa k (asH k (ac j.1) j.2 c0) fun q=>I ((ac q.1),q.2))
def ax1 (k:Nat) (l:Tm) (alJ:Int) (c0_1:LC) (sx wl:Int) (aas:BA) (abq:LC) (abZ:LT) (c0_7:LB) (I:Int×Int×BA×LT×Int->OS S):OS S:=asP (af l.kids 1) fun x1=>aa k (JL k (ac x1) ([]:LC) alJ) fun W=>asP (af l.kids 2) fun x3=>aa k (JL k (ac x3) ([]:LC) W.2) fun Y=>asP (af l.kids 0) fun x5=>aa k (ax4 k (ac x5) Y.2 c0_1 sx wl aas abq abZ c0_7) fun r6=>aa k (aww k 1 (Cl.mk 1 0) (ac W.1) (ac Y.1) r6.2 c0_1 sx wl aas abq abZ c0_7) fun j=>ab (decide (((c0_1.length:Int):Int)>0)) (aa k (JK k c0_1 1 j.2.2.2.2.2) fun r8=>aa k (aww k 2 (Cl.mk 2 0) (ac W.1) (ac Y.1) r8.2 c0_1 sx wl aas abq abZ c0_7) fun B=>aa k (aq3 k r8.1 [(Tm.mk B.1 B.2.1 B.2.2.1 B.2.2.2.1 B.2.2.2.2.1 [])]) fun q=>asP (aw 1099511627776 0 [q].length) fun a6=>asP (af l.kids 1) fun ad=>aa k (JJ k (ac ad) 1 B.2.2.2.2.2) fun r13=>aa k (aq3 k [(Cl.mk 0 1)] [(ac r13.1)]) fun r14=>asP (aw 1099511627776 [q].length [r14].length) fun a7=>asP (af l.kids 2) fun ao=>aa k (JJ k (ac ao) 1 r13.2) fun E=>aa k (aq3 k [(Cl.mk 1 0)] [(ac E.1)]) fun F=>asP (aw 1099511627776 ([q]++[r14]).length [F].length) fun a8=>aa k (y9 k (ac r6.1) (Tm.mk j.1 j.2.1 j.2.2.1 j.2.2.2.1 j.2.2.2.2.1 []) (([q]++[r14])++[F]) E.2) fun J=>aa k (zc k 12 [(ac J.1)]) fun x=>I (x.1,x.2.1,x.2.2.1,x.2.2.2,J.2)) (asP (af l.kids 1) fun ax=>aa k (JJ k (ac ax) 1 j.2.2.2.2.2) fun L=>aa k (aq3 k [(Cl.mk 0 1)] [(ac L.1)]) fun A=>asP (aw 1099511627776 0 [A].length) fun bc=>asP (af l.kids 2) fun az=>aa k (JJ k (ac az) 1 L.2) fun M=>aa k (aq3 k [(Cl.mk 1 0)] [(ac M.1)]) fun O=>asP (aw 1099511627776 [A].length [O].length) fun bf=>aa k (y9 k (ac r6.1) (Tm.mk j.1 j.2.1 j.2.2.1 j.2.2.2.1 j.2.2.2.2.1 []) ([A]++[O]) M.2) fun T=>aa k (zc k 12 [(ac T.1)]) fun z=>I (z.1,z.2.1,z.2.2.1,z.2.2.2,T.2))
def JM (k:Nat) (kind:Int) (l:LB) (kids:LT) (I:Int×Int×BA×LT×LB->OS S):OS S:=I (kind,0,alH,kids,l)
def Jp (k:Nat) (I:Tm×Bool×Int->OS S) (r3:Tm) (q:Int×Int×BA×LC×LT) (x4:Tm) (r13:Tm×Int) (x5:Tm) (E:Int->(LB)->Int->OS S) (F:Int) (j:LB) (A:Int):OS S:=ab (decide ((A:Int)<(x5.sys.length:Int))) (asP (af x5.sys A) fun J=>aa k (JK k r3.r 1 F) fun L=>aa k (JJ k (ac x4) 1 L.2) fun M=>asP (af J.kids 0) fun T=>aa k (tO k 14 L.1 [(ac M.1),(ac T)]) fun x=>aa k (aq3 k J.face [(Tm.mk x.1 x.2.1 x.2.2.1 x.2.2.2.1 x.2.2.2.2 [])]) fun O=>asP (aw 1099511627776 j.length [O].length) fun W=>E M.2 (j++[O]) (su .i64 (A+1))) (aa k (JM k 15 j [(ac r13.1),(Tm.mk q.1 q.2.1 q.2.2.1 q.2.2.2.1 q.2.2.2.2 [])]) fun z=>aa k (ly k (Tm.mk z.1 z.2.1 z.2.2.1 [] z.2.2.2.1 z.2.2.2.2) F) fun B=>I ((ac B.1),B.2.1,B.2.2.1))
def E7 (k:Nat) (I:Tm×Bool×Int->OS S) (r3:Tm) (q:Int×Int×BA×LC×LT) (x4:Tm) (r13:Tm×Int) (x5:Tm):Nat->Int->(LB)->Int->OS S
 |0=>fun _ _ _=> .none
 |m+1=>fun x j z=>Jp k I r3 q x4 r13 x5 (E7 k I r3 q x4 r13 x5 m) x j z
def SP (k:Nat) (I:Tm×Bool×Int->OS S) (J0:Tm->(Int×Int×BA×LC×LT)->Tm->(Tm×Int)->Tm->Int->(LB)->Int->OS S) (t:Tm):OS S:=aa k (asi k (ac t)) fun r1=>ab (!(r1==0)) (I ((Tm.mk 0 0 alH [] [] []),false,r1)) (ab (!(t.kind==14)) (I ((Tm.mk 0 0 alH [] [] []),false,0)) (asP (af t.kids 0) fun x2=>ab (!(x2.kind==23)) (I ((Tm.mk 0 0 alH [] [] []),false,0)) (dJ k (ac t) fun z=>asP (af z.kids 0) fun x4=>asP (af z.kids 1) fun x5=>ab (x5.kind==24) (aa k (ly k (ac x5) 0) fun A=>I ((ac A.1),A.2.1,A.2.2.1)) (ab (x5.kind==25) (aa k (ly k (ac x5) 0) fun B=>I ((ac B.1),B.2.1,B.2.2.1)) (ab (x5.kind==26) (asP (af x4.kids 0) fun J=>asP (af x5.kids 0) fun L=>aa k (tO k 14 z.r [(ac J),(ac L)]) fun j=>aa k (tO k 26 x5.r [(Tm.mk j.1 j.2.1 j.2.2.1 j.2.2.2.1 j.2.2.2.2 [])]) fun q=>aa k (ly k (Tm.mk q.1 q.2.1 q.2.2.1 q.2.2.2.1 q.2.2.2.2 []) 0) fun x=>I ((ac x.1),x.2.1,x.2.2.1)) (ab (x5.kind==15) (aa k (JI k (ac x4) 0) fun r13=>asP (af x5.kids 1) fun E=>aa k (tO k 14 z.r [(ac x4),(ac E)]) fun F=>J0 z F x4 r13 x5 r13.2 ([]:LB) 0) (I ((Tm.mk 0 0 alH [] [] []),false,0))))))))
def JG (k:Nat) (t:Tm) (I:Tm×Bool×Int->OS S):OS S:=SP k I (fun A q x4 r13 x5 x j z=>E7 k I A q x4 r13 x5 k x j z) t
def ay_ (k:Nat) (b:(Br Tm)) (I:(Br Tm)->OS S):OS S:=asP (af b.kids 1) fun x1=>aa k (aq3 k b.face [(ac x1)]) fun j=>I j
def aw_ (k:Nat) (I:LB->OS S) (l:LB) (q:Int->(LB)->OS S) (v10:Int) (j:LB):OS S:=ab (decide ((v10:Int)<(l.length:Int))) (asP (af l v10) fun x1=>aa k (ay_ k x1) fun x=>asP (aw 1099511627776 j.length [x].length) fun x3=>q (su .i64 (v10+1)) (j++[x])) (I j)
def avV (k:Nat) (I:LB->OS S) (l:LB):Nat->Int->(LB)->OS S
 |0=>fun _ _=> .none
 |m+1=>fun v10 j=>aw_ k I l (avV k I l m) v10 j
def ayK (k:Nat) (I:LB->OS S) (J0:Int->(LB)->OS S) (l:LB):OS S:=J0 0 ([]:LB)
def axE (k:Nat) (l:LB) (I:LB->OS S):OS S:=ayK k I (fun v10 j=>avV k I l k v10 j) l
def au4 (k:Nat) (g:Tm) (I:LB->OS S):OS S:=aa k (axE k g.sys) fun r1=>I r1
def aun (k:Nat) (a:Tm) (es:LB) (I:Int×Int×BA×LT×LB->OS S):OS S:=aa k (JM k 18 es [(ac a)]) fun r1=>I (r1.1,r1.2.1,r1.2.2.1,r1.2.2.2.1,r1.2.2.2.2)
def ay3 (k:Nat) (c:Cl) (c0:Int) (I:Cl×Bool->OS S):OS S:=aa k (amz k (bj .or .u32 c.pos c.neg) c0) fun r1=>I (c,!r1)
def aw1 (k:Nat) (I:LC->OS S) (c0:Int) (l:LC) (q:Int->(LC)->OS S) (v12:Int) (j:LC):OS S:=ab (decide ((v12:Int)<(l.length:Int))) (asP (af l v12) fun x1=>aa k (ay3 k x1 c0) fun x=>ab (x.2) (asP (aw 1099511627776 j.length [x.1].length) fun x3=>q (su .i64 (v12+1)) (j++[x.1])) (q (su .i64 (v12+1)) j)) (I j)
def avN (k:Nat) (I:LC->OS S) (c0:Int) (l:LC):Nat->Int->(LC)->OS S
 |0=>fun _ _=> .none
 |m+1=>fun v12 j=>aw1 k I c0 l (avN k I c0 l m) v12 j
def az7 (k:Nat) (I:LC->OS S) (J0:Int->(LC)->OS S) (l:LC) (c0:Int):OS S:=J0 0 ([]:LC)
def ay4 (k:Nat) (l:LC) (c0:Int) (I:LC->OS S):OS S:=az7 k I (fun v12 j=>avN k I c0 l k v12 j) l c0
def axu (k:Nat) (f:LC) (i:Int) (I:LC×Int->OS S):OS S:=aa k (pd k f) fun r1=>ab (!r1) (I (([]:LC),2)) (aa k (yK k i) fun q=>ab (!q) (I (([]:LC),2)) (aa k (ay4 k f i) fun x=>aa k (gy k x) fun j=>I (j.1,j.2)))
def axT (k:Nat) (f:LC) (c0:Int) (I:LC×Int->OS S):OS S:=aa k (dG k c0) fun r1=>ab (!r1) (I (([]:LC),c0)) (aa k (axu k f 0) fun z=>aa k (asH k (Tm.mk 0 0 alH [] [] []) z.2 c0) fun x=>aa k (dG k x.2) fun B=>ab (!B) (I (([]:LC),x.2)) (aa k (zc k 3 ([]:LT)) fun j=>aa k (zc k 3 ([]:LT)) fun q=>aa k (tK k) fun E=>aa k (m_ k (Tm.mk 14 0 alH z.1 [(Tm.mk j.1 j.2.1 j.2.2.1 [] j.2.2.2 []),(Tm.mk q.1 q.2.1 q.2.2.1 [] q.2.2.2 [])] []) 0 E) fun A=>aa k (asH k (Tm.mk 0 0 alH [] [] []) A.2 x.2) fun F=>I (A.1.r,F.2)))
def avw (k:Nat) (c1:Tm) (j:Int) (q:LC) (x z:Int) (A:BA) (B:LC) (E:LT) (F J:LB) (L M:Int) (O:BA) (T:LC) (W:LT) (Y:LB) (ad ao:Int) (ax:BA) (az:LC) (a6:LT) (a7:LB) (I:Tm×Int->OS S):OS S:=aa k (zb k (ac c1) 0 1 j) fun r1=>I ((ac r1.1),r1.2)
def awp (k:Nat) (alJ:Int) (c0_1:LC) (sx wl:Int) (aas:BA) (abq:LC) (abZ:LT) (c0_7 j:LB) (aqZ aqU:Int) (aqV:BA) (aqW:LC) (aqX:LT) (aqY:LB) (aqG aqH:Int) (aqI:BA) (aqJ:LC) (aqK:LT) (aqL:LB) (c2:Tm) (I:LB×Int->OS S):OS S:=ab ((c0_1.length:Int)==0) (I (([]:LB),alJ)) (aa k (avw k (ac c2) alJ c0_1 sx wl aas abq abZ c0_7 j aqZ aqU aqV aqW aqX aqY aqG aqH aqI aqJ aqK aqL) fun r1=>aa k (aq3 k c0_1 [(ac r1.1)]) fun q=>I ([q],r1.2))
def aum (k:Nat) (a_e:Tm) (I:Int×Int×BA×LT->OS S):OS S:=aa k (zc k 9 [(ac a_e)]) fun r1=>I (r1.1,r1.2.1,r1.2.2.1,r1.2.2.2)
def ay7 (k:Nat) (b:(Br Tm)) (aqS:Int) (aph:LC) (api apl:Int) (apm:BA) (apn:LC) (apr:LT) (aps aqC:LB) (aqi apG:Int) (apH:BA) (apI:LC) (apJ:LT) (ap3:LB) (aqr aqx:Int) (aqy:BA) (aqz:LC) (aqA:LT) (aqB:LB) (I:(Br Tm)×Int->OS S):OS S:=asP (af b.kids 1) fun x1=>aa k (aum k (ac x1)) fun j=>asP (af b.kids 0) fun x3=>aa k (awu k (ac x3) aph (Tm.mk api apl apm apn apr aps) aqS) fun x=>aa k (zc k 6 [(Tm.mk j.1 j.2.1 j.2.2.1 [] j.2.2.2 []),(ac x.1)]) fun q=>aa k (aq3 k b.face [(Tm.mk q.1 q.2.1 q.2.2.1 [] q.2.2.2 [])]) fun z=>I (z,x.2)
def aw5 (k:Nat) (I:LB×Int->OS S) (aph:LC) (apG:Int) (apH:BA) (apI:LC) (apJ:LT) (ap3:LB) (aqr aqx:Int) (aqy:BA) (aqz:LC) (aqA:LT) (api:Int) (aqB:LB) (apl:Int) (apm:BA) (apn:LC) (apr:LT) (aps aqC:LB) (aqi:Int) (l:LB) (q:Int->Int->(LB)->OS S) (arm v10:Int) (j:LB):OS S:=ab (decide ((v10:Int)<(l.length:Int))) (asP (af l v10) fun x1=>aa k (ay7 k x1 arm aph api apl apm apn apr aps aqC aqi apG apH apI apJ ap3 aqr aqx aqy aqz aqA aqB) fun x=>asP (aw 1099511627776 j.length [x.1].length) fun x3=>q x.2 (su .i64 (v10+1)) (j++[x.1])) (I (j,arm))
def avQ (k:Nat) (I:LB×Int->OS S) (aph:LC) (apG:Int) (apH:BA) (apI:LC) (apJ:LT) (ap3:LB) (aqr aqx:Int) (aqy:BA) (aqz:LC) (aqA:LT) (api:Int) (aqB:LB) (apl:Int) (apm:BA) (apn:LC) (apr:LT) (aps aqC:LB) (aqi:Int) (l:LB):Nat->Int->Int->(LB)->OS S
 |0=>fun _ _ _=> .none
 |m+1=>fun arm v10 j=>aw5 k I aph apG apH apI apJ ap3 aqr aqx aqy aqz aqA api aqB apl apm apn apr aps aqC aqi l (avQ k I aph apG apH apI apJ ap3 aqr aqx aqy aqz aqA api aqB apl apm apn apr aps aqC aqi l m) arm v10 j
def aAa (k:Nat) (I:LB×Int->OS S) (J0:Int->Int->(LB)->OS S) (l:LB) (aqS:Int) (aph:LC) (api apl:Int) (apm:BA) (apn:LC) (apr:LT) (aps aqC:LB) (aqi apG:Int) (apH:BA) (apI:LC) (apJ:LT) (ap3:LB) (aqr aqx:Int) (aqy:BA) (aqz:LC) (aqA:LT) (aqB:LB):OS S:=J0 aqS 0 ([]:LB)
def awq (k:Nat) (l:LB) (aqS:Int) (aph:LC) (api apl:Int) (apm:BA) (apn:LC) (apr:LT) (aps aqC:LB) (aqi apG:Int) (apH:BA) (apI:LC) (apJ:LT) (ap3:LB) (aqr aqx:Int) (aqy:BA) (aqz:LC) (aqA:LT) (aqB:LB) (I:LB×Int->OS S):OS S:=aAa k I (fun arm v10 j=>avQ k I aph apG apH apI apJ ap3 aqr aqx aqy aqz aqA api aqB apl apm apn apr aps aqC aqi l k arm v10 j) l aqS aph api apl apm apn apr aps aqC aqi apG apH apI apJ ap3 aqr aqx aqy aqz aqA aqB
def aw4 (k:Nat) (I:Int×LB×Int×Int×BA×LC×LT×LB->OS S) (c0_1:LC) (aqU:Int) (aqV:BA) (aqW:LC) (aqX:LT) (aqY:LB) (aqG aqH:Int) (aqI:BA) (aqJ:LC) (aqK:LT) (sx:Int) (aqL:LB) (wl:Int) (aas:BA) (abq:LC) (abZ:LT) (c0_7:LB) (aqZ:Int) (g:Tm) (r3:Int×Int×BA×LT×LB) (x:Int->(LB)->Int->OS S) (z:Int) (j:LB) (v23:Int):OS S:=ab (decide ((v23:Int)<(g.sys.length:Int))) (asP (af g.sys v23) fun x4=>aa k (axT k x4.face z) fun A=>ab (decide (((A.1.length:Int):Int)>0)) (aa k (aq3 k A.1 x4.kids) fun J=>asP (aw 1099511627776 j.length [J].length) fun M=>x A.2 (j++[J]) (su .i64 (v23+1))) (x A.2 j (su .i64 (v23+1)))) (aa k (awp k z c0_1 sx wl aas abq abZ c0_7 j aqZ aqU aqV aqW aqX aqY aqG aqH aqI aqJ aqK aqL (Tm.mk r3.1 r3.2.1 r3.2.2.1 [] r3.2.2.2.1 r3.2.2.2.2)) fun B=>aa k (awq k j B.2 c0_1 sx wl aas abq abZ c0_7 j aqZ aqU aqV aqW aqX aqY aqG aqH aqI aqJ aqK aqL) fun E=>asP (aw 1099511627776 B.1.length E.1.length) fun L=>asP (af g.kids 0) fun F=>aa k (y9 k (ac F) (Tm.mk r3.1 r3.2.1 r3.2.2.1 [] r3.2.2.2.1 r3.2.2.2.2) (B.1++E.1) E.2) fun q=>I (q.2,j,q.1.kind,q.1.n,q.1.name,q.1.r,q.1.kids,q.1.sys))
def avP (k:Nat) (I:Int×LB×Int×Int×BA×LC×LT×LB->OS S) (c0_1:LC) (aqU:Int) (aqV:BA) (aqW:LC) (aqX:LT) (aqY:LB) (aqG aqH:Int) (aqI:BA) (aqJ:LC) (aqK:LT) (sx:Int) (aqL:LB) (wl:Int) (aas:BA) (abq:LC) (abZ:LT) (c0_7:LB) (aqZ:Int) (g:Tm) (r3:Int×Int×BA×LT×LB):Nat->Int->(LB)->Int->OS S
 |0=>fun _ _ _=> .none
 |m+1=>fun q j v23=>aw4 k I c0_1 aqU aqV aqW aqX aqY aqG aqH aqI aqJ aqK sx aqL wl aas abq abZ c0_7 aqZ g r3 (avP k I c0_1 aqU aqV aqW aqX aqY aqG aqH aqI aqJ aqK sx aqL wl aas abq abZ c0_7 aqZ g r3 m) q j v23
def az_ (k:Nat) (I:Int×LB×Int×Int×BA×LC×LT×LB->OS S) (J0:(Int×Int×BA×LT×LB)->Int->(LB)->Int->OS S) (g:Tm) (alJ:Int) (c0_1:LC) (sx wl:Int) (aas:BA) (abq:LC) (abZ:LT) (c0_7:LB) (aqZ aqU:Int) (aqV:BA) (aqW:LC) (aqX:LT) (aqY:LB) (aqG aqH:Int) (aqI:BA) (aqJ:LC) (aqK:LT) (aqL:LB):OS S:=aa k (JL k (ac g) ([]:LC) alJ) fun r1=>aa k (au4 k (ac r1.1)) fun j=>aa k (aun k (Tm.mk sx wl aas abq abZ c0_7) j) fun q=>J0 q r1.2 ([]:LB) 0
def axB (k:Nat) (g:Tm) (alJ:Int) (c0_1:LC) (sx wl:Int) (aas:BA) (abq:LC) (abZ:LT) (c0_7:LB) (aqZ aqU:Int) (aqV:BA) (aqW:LC) (aqX:LT) (aqY:LB) (aqG aqH:Int) (aqI:BA) (aqJ:LC) (aqK:LT) (aqL:LB) (I:Int×LB×Int×Int×BA×LC×LT×LB->OS S):OS S:=az_ k I (fun x q j v23=>avP k I c0_1 aqU aqV aqW aqX aqY aqG aqH aqI aqJ aqK sx aqL wl aas abq abZ c0_7 aqZ g x k q j v23) g alJ c0_1 sx wl aas abq abZ c0_7 aqZ aqU aqV aqW aqX aqY aqG aqH aqI aqJ aqK aqL
def asX (k:Nat) (a_n:Int) (I:Int×Int×BA->OS S):OS S:=I (1,a_n,alH)
def au2 (k:Nat) (t a f y:Tm) (c0:Int) (I:Int×Int×BA×LT×Int->OS S):OS S:=aa k (arP k (ac a) 1 1 c0) fun r1=>aa k (arP k (ac y) 1 0 r1.2) fun A=>aa k (arP k (ac f) 1 0 A.2) fun B=>aa k (asX k 0) fun z=>aa k (arj k 6 [(ac B.1),(Tm.mk z.1 z.2.1 z.2.2 [] [] [])]) fun j=>aa k (arj k 11 [(ac r1.1),(ac A.1),(Tm.mk j.1 j.2.1 j.2.2.1 [] j.2.2.2 [])]) fun q=>aa k (arj k 7 [(ac t),(Tm.mk q.1 q.2.1 q.2.2.1 [] q.2.2.2 [])]) fun x=>I (x.1,x.2.1,x.2.2.1,x.2.2.2,B.2)
def axq (k:Nat) (t a f y:Tm) (I:Tm×Int->OS S):OS S:=aa k (m9 k [(ac t),(ac a),(ac f),(ac y)]) fun r1=>dJ k (ac t) fun x=>aa k (au2 k (ac x) (ac a) (ac f) (ac y) r1) fun j=>aa k (eQ k (Tm.mk j.1 j.2.1 j.2.2.1 [] j.2.2.2.1 []) j.2.2.2.2) fun q=>I ((ac q.1),q.2.1)
def axW (k:Nat) (t a f y:Tm) (c0:Int) (I:Tm×Int->OS S):OS S:=aa k (dG k c0) fun r1=>ab (!r1) (I ((Tm.mk 0 0 alH [] [] []),c0)) (aa k (axq k (ac t) (ac a) (ac f) (ac y)) fun j=>aa k (asH k (ac j.1) j.2 c0) fun q=>I ((ac q.1),q.2))
def awo (k:Nat) (a_x c1:Tm) (E:Int) (ad:LC) (ao ax:Int) (az:BA) (a6:LC) (a7:LT) (a8 bc:LB) (F J:Int) (L:BA) (M:LC) (O:LT) (T:LB) (bf bg:Int) (bh:BA) (bn:LC) (bt:LT) (bz:LB) (I:Int×Int×BA×LC×LT×Int->OS S):OS S:=aa k (zb k (ac c1) 0 1 E) fun r1=>aa k (zb k (ac a_x) 0 1 r1.2) fun W=>aa k (zb k (Tm.mk F J L M O T) 0 2 W.2) fun Y=>aa k (zc k 12 [(ac Y.1)]) fun x=>aa k (zc k 8 [(ac W.1),(Tm.mk x.1 x.2.1 x.2.2.1 [] x.2.2.2 [])]) fun j=>aa k (zc k 10 [(ac r1.1)]) fun z=>aa k (zc k 6 [(Tm.mk z.1 z.2.1 z.2.2.1 [] z.2.2.2 []),(Tm.mk j.1 j.2.1 j.2.2.1 [] j.2.2.2 [])]) fun A=>aa k (zc k 9 [(ac r1.1)]) fun B=>aa k (tO k 13 [(Cl.mk 1 0)] [(Tm.mk A.1 A.2.1 A.2.2.1 [] A.2.2.2 []),(Tm.mk B.1 B.2.1 B.2.2.1 [] B.2.2.2 []),(Tm.mk j.1 j.2.1 j.2.2.1 [] j.2.2.2 [])]) fun q=>I (q.1,q.2.1,q.2.2.1,q.2.2.2.1,q.2.2.2.2,Y.2)
def avx (k:Nat) (c2:Tm) (arG:Int) (aqT:LC) (aqM aqN:Int) (aqO:BA) (aqP:LC) (aqQ:LT) (aqR arh:LB) (ari aq7:Int) (aq8:BA) (aq9:LC) (aq_:LT) (ara:LB) (arb arc:Int) (ard:BA) (are:LC) (arf:LT) (arg:LB) (I:Int×Int×BA×LC×LT×Int->OS S):OS S:=aa k (awo k (Tm.mk aqM aqN aqO aqP aqQ aqR) (ac c2) arG aqT aqM aqN aqO aqP aqQ aqR arh ari aq7 aq8 aq9 aq_ ara arb arc ard are arf arg) fun r1=>I (r1.1,r1.2.1,r1.2.2.1,r1.2.2.2.1,r1.2.2.2.2.1,r1.2.2.2.2.2)
def axD (k:Nat) (alJ:Int) (c0_1:LC) (sx wl:Int) (aas:BA) (abq:LC) (abZ:LT) (c0_7 j:LB) (aqZ aqU:Int) (aqV:BA) (aqW:LC) (aqX:LT) (aqY:LB) (aqG aqH:Int) (aqI:BA) (aqJ:LC) (aqK:LT) (aqL:LB) (c3:Tm) (I:LB×Int->OS S):OS S:=ab ((c0_1.length:Int)==0) (I (([]:LB),alJ)) (aa k (avx k (ac c3) alJ c0_1 sx wl aas abq abZ c0_7 j aqZ aqU aqV aqW aqX aqY aqG aqH aqI aqJ aqK aqL) fun r1=>aa k (aq3 k c0_1 [(Tm.mk r1.1 r1.2.1 r1.2.2.1 r1.2.2.2.1 r1.2.2.2.2.1 [])]) fun q=>I ([q],r1.2.2.2.2.2))
def ay8 (k:Nat) (b:(Br Tm)) (c2:Tm) (arG:Int) (aqT:LC) (aqM aqN:Int) (aqO:BA) (aqP:LC) (aqQ:LT) (aqR arh:LB) (ari aq7:Int) (aq8:BA) (aq9:LC) (aq_:LT) (ara:LB) (arb arc:Int) (ard:BA) (are:LC) (arf:LT) (arg:LB) (I:(Br Tm)×Int->OS S):OS S:=asP (af b.kids 0) fun x1=>aa k (tO k 14 aqT [(ac x1),(Tm.mk aqM aqN aqO aqP aqQ aqR)]) fun q=>aa k (awo k (Tm.mk q.1 q.2.1 q.2.2.1 q.2.2.2.1 q.2.2.2.2 []) (ac c2) arG aqT aqM aqN aqO aqP aqQ aqR arh ari aq7 aq8 aq9 aq_ ara arb arc ard are arf arg) fun j=>aa k (aq3 k b.face [(Tm.mk j.1 j.2.1 j.2.2.1 j.2.2.2.1 j.2.2.2.2.1 [])]) fun x=>I (x,j.2.2.2.2.2)
def axa (k:Nat) (I:LB×Int->OS S) (c2:Tm) (aqT:LC) (aq7:Int) (aq8:BA) (aq9:LC) (aq_:LT) (ara:LB) (arb arc:Int) (ard:BA) (are:LC) (arf:LT) (aqM:Int) (arg:LB) (aqN:Int) (aqO:BA) (aqP:LC) (aqQ:LT) (aqR arh:LB) (ari:Int) (l:LB) (q:Int->Int->(LB)->OS S) (x v10:Int) (j:LB):OS S:=ab (decide ((v10:Int)<(l.length:Int))) (asP (af l v10) fun x1=>aa k (ay8 k x1 (ac c2) x aqT aqM aqN aqO aqP aqQ aqR arh ari aq7 aq8 aq9 aq_ ara arb arc ard are arf arg) fun z=>asP (aw 1099511627776 j.length [z.1].length) fun x3=>q z.2 (su .i64 (v10+1)) (j++[z.1])) (I (j,x))
def avd (k:Nat) (I:LB×Int->OS S) (c2:Tm) (aqT:LC) (aq7:Int) (aq8:BA) (aq9:LC) (aq_:LT) (ara:LB) (arb arc:Int) (ard:BA) (are:LC) (arf:LT) (aqM:Int) (arg:LB) (aqN:Int) (aqO:BA) (aqP:LC) (aqQ:LT) (aqR arh:LB) (ari:Int) (l:LB):Nat->Int->Int->(LB)->OS S
 |0=>fun _ _ _=> .none
 |m+1=>fun q v10 j=>axa k I c2 aqT aq7 aq8 aq9 aq_ ara arb arc ard are arf aqM arg aqN aqO aqP aqQ aqR arh ari l (avd k I c2 aqT aq7 aq8 aq9 aq_ ara arb arc ard are arf aqM arg aqN aqO aqP aqQ aqR arh ari l m) q v10 j
def aAd (k:Nat) (I:LB×Int->OS S) (J0:Int->Int->(LB)->OS S) (l:LB) (c2:Tm) (arG:Int) (aqT:LC) (aqM aqN:Int) (aqO:BA) (aqP:LC) (aqQ:LT) (aqR arh:LB) (ari aq7:Int) (aq8:BA) (aq9:LC) (aq_:LT) (ara:LB) (arb arc:Int) (ard:BA) (are:LC) (arf:LT) (arg:LB):OS S:=J0 arG 0 ([]:LB)
def axF (k:Nat) (l:LB) (c2:Tm) (arG:Int) (aqT:LC) (aqM aqN:Int) (aqO:BA) (aqP:LC) (aqQ:LT) (aqR arh:LB) (ari aq7:Int) (aq8:BA) (aq9:LC) (aq_:LT) (ara:LB) (arb arc:Int) (ard:BA) (are:LC) (arf:LT) (arg:LB) (I:LB×Int->OS S):OS S:=aAd k I (fun q v10 j=>avd k I c2 aqT aq7 aq8 aq9 aq_ ara arb arc ard are arf aqM arg aqN aqO aqP aqQ aqR arh ari l k q v10 j) l c2 arG aqT aqM aqN aqO aqP aqQ aqR arh ari aq7 aq8 aq9 aq_ ara arb arc ard are arf arg
def axC (k:Nat) (t a_e:Tm) (alJ:Int) (c0_1:LC) (sx wl:Int) (aas:BA) (abq:LC) (abZ:LT) (c0_7 q:LB) (aqZ aqU:Int) (aqV:BA) (aqW:LC) (aqX:LT) (aqY:LB) (aqG aqH:Int) (aqI:BA) (aqJ:LC) (aqK:LT) (aqL:LB) (I:Int×Int×BA×LT×LB×Int->OS S):OS S:=aa k (zc k 10 [(ac a_e)]) fun r1=>aa k (zc k 6 [(Tm.mk r1.1 r1.2.1 r1.2.2.1 [] r1.2.2.2 []),(Tm.mk aqZ aqU aqV aqW aqX aqY)]) fun j=>aa k (aum k (ac a_e)) fun z=>aa k (axW k (ac t) (Tm.mk aqG aqH aqI aqJ aqK aqL) (Tm.mk z.1 z.2.1 z.2.2.1 [] z.2.2.2 []) (Tm.mk aqZ aqU aqV aqW aqX aqY) alJ) fun F=>aa k (axD k F.2 c0_1 sx wl aas abq abZ c0_7 q aqZ aqU aqV aqW aqX aqY aqG aqH aqI aqJ aqK aqL (Tm.mk j.1 j.2.1 j.2.2.1 [] j.2.2.2 [])) fun B=>aa k (axF k q (Tm.mk j.1 j.2.1 j.2.2.1 [] j.2.2.2 []) B.2 c0_1 sx wl aas abq abZ c0_7 q aqZ aqU aqV aqW aqX aqY aqG aqH aqI aqJ aqK aqL) fun E=>asP (aw 1099511627776 B.1.length E.1.length) fun J=>aa k (zc k 9 [(Tm.mk j.1 j.2.1 j.2.2.1 [] j.2.2.2 [])]) fun A=>aa k (JM k 15 (B.1++E.1) [(ac F.1),(Tm.mk A.1 A.2.1 A.2.2.1 [] A.2.2.2 [])]) fun x=>I (x.1,x.2.1,x.2.2.1,x.2.2.2.1,x.2.2.2.2,E.2)
def ay5 (k:Nat) (b:(Br Tm)) (aqS:Int) (aph:LC) (api apl:Int) (apm:BA) (apn:LC) (apr:LT) (aps aqC:LB) (aqi apG:Int) (apH:BA) (apI:LC) (apJ:LT) (ap3:LB) (aqr aqx:Int) (aqy:BA) (aqz:LC) (aqA:LT) (aqB:LB) (I:Int×Int×BA×LT×LB×Int->OS S):OS S:=asP (af b.kids 0) fun x1=>asP (af b.kids 1) fun x2=>aa k (axC k (ac x1) (ac x2) aqS aph api apl apm apn apr aps aqC aqi apG apH apI apJ ap3 aqr aqx aqy aqz aqA aqB) fun j=>I (j.1,j.2.1,j.2.2.1,j.2.2.2.1,j.2.2.2.2.1,j.2.2.2.2.2)
def aw9 (k:Nat) (I:LT×Int->OS S) (aph:LC) (apG:Int) (apH:BA) (apI:LC) (apJ:LT) (ap3:LB) (aqr aqx:Int) (aqy:BA) (aqz:LC) (aqA:LT) (api:Int) (aqB:LB) (apl:Int) (apm:BA) (apn:LC) (apr:LT) (aps aqC:LB) (aqi:Int) (l:LB) (x:Int->Int->(LT)->OS S) (arm v10:Int) (j:LT):OS S:=ab (decide ((v10:Int)<(l.length:Int))) (asP (af l v10) fun x1=>aa k (ay5 k x1 arm aph api apl apm apn apr aps aqC aqi apG apH apI apJ ap3 aqr aqx aqy aqz aqA aqB) fun q=>asP (aw 1099511627776 j.length [(Tm.mk q.1 q.2.1 q.2.2.1 [] q.2.2.2.1 q.2.2.2.2.1)].length) fun x3=>x q.2.2.2.2.2 (su .i64 (v10+1)) (j++[(Tm.mk q.1 q.2.1 q.2.2.1 [] q.2.2.2.1 q.2.2.2.2.1)])) (I (j,arm))
def avU (k:Nat) (I:LT×Int->OS S) (aph:LC) (apG:Int) (apH:BA) (apI:LC) (apJ:LT) (ap3:LB) (aqr aqx:Int) (aqy:BA) (aqz:LC) (aqA:LT) (api:Int) (aqB:LB) (apl:Int) (apm:BA) (apn:LC) (apr:LT) (aps aqC:LB) (aqi:Int) (l:LB):Nat->Int->Int->(LT)->OS S
 |0=>fun _ _ _=> .none
 |m+1=>fun arm v10 j=>aw9 k I aph apG apH apI apJ ap3 aqr aqx aqy aqz aqA api aqB apl apm apn apr aps aqC aqi l (avU k I aph apG apH apI apJ ap3 aqr aqx aqy aqz aqA api aqB apl apm apn apr aps aqC aqi l m) arm v10 j
def aAc (k:Nat) (I:LT×Int->OS S) (J0:Int->Int->(LT)->OS S) (l:LB) (aqS:Int) (aph:LC) (api apl:Int) (apm:BA) (apn:LC) (apr:LT) (aps aqC:LB) (aqi apG:Int) (apH:BA) (apI:LC) (apJ:LT) (ap3:LB) (aqr aqx:Int) (aqy:BA) (aqz:LC) (aqA:LT) (aqB:LB):OS S:=J0 aqS 0 ([]:LT)
def avz (k:Nat) (l:LB) (aqS:Int) (aph:LC) (api apl:Int) (apm:BA) (apn:LC) (apr:LT) (aps aqC:LB) (aqi apG:Int) (apH:BA) (apI:LC) (apJ:LT) (ap3:LB) (aqr aqx:Int) (aqy:BA) (aqz:LC) (aqA:LT) (aqB:LB) (I:LT×Int->OS S):OS S:=aAc k I (fun arm v10 j=>avU k I aph apG apH apI apJ ap3 aqr aqx aqy aqz aqA api aqB apl apm apn apr aps aqC aqi l k arm v10 j) l aqS aph api apl apm apn apr aps aqC aqi apG apH apI apJ ap3 aqr aqx aqy aqz aqA aqB
def avv (k:Nat) (aqS:Int) (aph:LC) (api apl:Int) (apm:BA) (apn:LC) (apr:LT) (aps aqC:LB) (aqi apG:Int) (apH:BA) (apI:LC) (apJ:LT) (ap3:LB) (aqr aqx:Int) (aqy:BA) (aqz:LC) (aqA:LT) (aqB:LB) (I:Tm×Int->OS S):OS S:=aa k (zb k (Tm.mk aqi apG apH apI apJ ap3) 0 1 aqS) fun r1=>I ((ac r1.1),r1.2)
def avy (k:Nat) (alJ:Int) (c0_1:LC) (sx wl:Int) (aas:BA) (abq:LC) (abZ:LT) (c0_7 j:LB) (aqZ aqU:Int) (aqV:BA) (aqW:LC) (aqX:LT) (aqY:LB) (aqG aqH:Int) (aqI:BA) (aqJ:LC) (aqK:LT) (aqL:LB) (I:LB×Int->OS S):OS S:=ab ((c0_1.length:Int)==0) (I (([]:LB),alJ)) (aa k (avv k alJ c0_1 sx wl aas abq abZ c0_7 j aqZ aqU aqV aqW aqX aqY aqG aqH aqI aqJ aqK aqL) fun r1=>aa k (aq3 k c0_1 [(ac r1.1)]) fun q=>I ([q],r1.2))
def aw3 (k:Nat) (I:Tm×Bool×Int->OS S) (r3:Tm) (r6:Int×LB×Int×Int×BA×LC×LT×LB) (x4:Tm) (r8:Tm×Int) (Y:Int->Int->Int->BA->(LC)->(LT)->(LB)->(LB)->Int->(LT)->(LB)->OS S) (ad ao ax:Int) (az:BA) (a6:LC) (a7:LT) (a8 j:LB) (v79:Int) (q:LT) (x:LB):OS S:=ab (decide ((v79:Int)<(r8.1.sys.length:Int))) (asP (af r8.1.sys v79) fun O=>asP (af q v79) fun b0=>asP (af q v79) fun bn=>aa k (zb k (ac bn) 0 1 ad) fun T=>aa k (zb k (Tm.mk r6.2.2.1 r6.2.2.2.1 r6.2.2.2.2.1 r6.2.2.2.2.2.1 r6.2.2.2.2.2.2.1 r6.2.2.2.2.2.2.2) 0 1 T.2) fun bc=>asP (af O.kids 1) fun bt=>aa k (zb k (ac bt) 0 1 bc.2) fun bf=>aa k (aum k (ac bf.1)) fun E=>aa k (zc k 9 [(ac T.1)]) fun F=>aa k (zc k 6 [(Tm.mk E.1 E.2.1 E.2.2.1 [] E.2.2.2 []),(Tm.mk F.1 F.2.1 F.2.2.1 [] F.2.2.2 [])]) fun J=>aa k (zc k 10 [(ac T.1)]) fun L=>aa k (tO k 13 [(Cl.mk 1 0)] [(Tm.mk L.1 L.2.1 L.2.2.1 [] L.2.2.2 []),(ac bc.1),(Tm.mk J.1 J.2.1 J.2.2.1 [] J.2.2.2 [])]) fun z=>aa k (aq3 k O.face [(Tm.mk z.1 z.2.1 z.2.2.1 z.2.2.2.1 z.2.2.2.2 [])]) fun bg=>asP (aw 1099511627776 x.length [bg].length) fun b1=>asP (af q v79) fun b2=>asP (af q v79) fun bz=>aa k (zc k 9 [(ac bz)]) fun M=>aa k (aq3 k O.face [(Tm.mk M.1 M.2.1 M.2.2.1 [] M.2.2.2 [])]) fun bh=>asP (aw 1099511627776 j.length [bh].length) fun b3=>Y bf.2 ao ax az a6 a7 a8 (j++[bh]) (su .i64 (v79+1)) q (x++[bg])) (aa k (JM k 15 x [(Tm.mk ao ax az a6 a7 a8),(Tm.mk r6.2.2.1 r6.2.2.2.1 r6.2.2.2.2.1 r6.2.2.2.2.2.1 r6.2.2.2.2.2.2.1 r6.2.2.2.2.2.2.2)]) fun A=>aa k (JM k 17 j [(Tm.mk A.1 A.2.1 A.2.2.1 [] A.2.2.2.1 A.2.2.2.2)]) fun B=>aa k (ly k (Tm.mk B.1 B.2.1 B.2.2.1 [] B.2.2.2.1 B.2.2.2.2) ad) fun W=>I ((ac W.1),W.2.1,W.2.2.1))
def auQ (k:Nat) (I:Tm×Bool×Int->OS S) (r3:Tm) (r6:Int×LB×Int×Int×BA×LC×LT×LB) (x4:Tm) (r8:Tm×Int):Nat->Int->Int->Int->BA->(LC)->(LT)->(LB)->(LB)->Int->(LT)->(LB)->OS S
 |0=>fun _ _ _ _ _ _ _ _ _ _ _=> .none
 |m+1=>fun x z A B E F J j v79 L q=>aw3 k I r3 r6 x4 r8 (auQ k I r3 r6 x4 r8 m) x z A B E F J j v79 L q
def az9 (k:Nat) (I:Tm×Bool×Int->OS S) (J0:Tm->(Int×LB×Int×Int×BA×LC×LT×LB)->Tm->(Tm×Int)->Int->Int->Int->BA->(LC)->(LT)->(LB)->(LB)->Int->(LT)->(LB)->OS S) (t:Tm):OS S:=aa k (asi k (ac t)) fun r1=>ab (!(r1==0)) (I ((Tm.mk 0 0 alH [] [] []),false,r1)) (ab (!(t.kind==14)) (I ((Tm.mk 0 0 alH [] [] []),false,0)) (asP (af t.kids 0) fun x2=>ab (!(x2.kind==16)) (I ((Tm.mk 0 0 alH [] [] []),false,0)) (dJ k (ac t) fun x=>asP (af x.kids 1) fun x4=>asP (af x.kids 0) fun x5=>aa k (axB k (ac x5) 0 x.r x4.kind x4.n x4.name x4.r x4.kids x4.sys 0 0 alH [] [] [] 0 0 alH [] [] []) fun j=>asP (af x.kids 0) fun J=>aa k (JI k (ac J) j.1) fun z=>ab ((z.1.kids.length:Int)==1) (asP (af z.1.kids 0) fun q=>aa k (avz k z.1.sys z.2 x.r x4.kind x4.n x4.name x4.r x4.kids x4.sys j.2.1 j.2.2.1 j.2.2.2.1 j.2.2.2.2.1 j.2.2.2.2.2.1 j.2.2.2.2.2.2.1 j.2.2.2.2.2.2.2 q.kind q.n q.name q.r q.kids q.sys) fun A=>aa k (avy k A.2 x.r x4.kind x4.n x4.name x4.r x4.kids x4.sys j.2.1 j.2.2.1 j.2.2.2.1 j.2.2.2.2.1 j.2.2.2.2.2.1 j.2.2.2.2.2.2.1 j.2.2.2.2.2.2.2 q.kind q.n q.name q.r q.kids q.sys) fun B=>J0 x j x4 z B.2 q.kind q.n q.name q.r q.kids q.sys ([]:LB) 0 A.1 B.1) (aa k (avz k z.1.sys z.2 x.r x4.kind x4.n x4.name x4.r x4.kids x4.sys j.2.1 j.2.2.1 j.2.2.2.1 j.2.2.2.2.1 j.2.2.2.2.2.1 j.2.2.2.2.2.2.1 j.2.2.2.2.2.2.2 0 0 alH [] [] []) fun E=>aa k (avy k E.2 x.r x4.kind x4.n x4.name x4.r x4.kids x4.sys j.2.1 j.2.2.1 j.2.2.2.1 j.2.2.2.2.1 j.2.2.2.2.2.1 j.2.2.2.2.2.2.1 j.2.2.2.2.2.2.2 0 0 alH [] [] []) fun F=>J0 x j x4 z F.2 0 0 alH [] [] [] ([]:LB) 0 E.1 F.1))))
def axx (k:Nat) (t:Tm) (I:Tm×Bool×Int->OS S):OS S:=az9 k I (fun M O x4 T x z A B E F J j v79 L q=>auQ k I M O x4 T k x z A B E F J j v79 L q) t
def axZ (k:Nat) (t:Tm) (I:Tm×Bool×Int->OS S):OS S:=aa k (asi k (ac t)) fun r1=>ab (!(r1==0)) (I ((Tm.mk 0 0 alH [] [] []),false,r1)) (ab (!(t.kind==14)) (I ((Tm.mk 0 0 alH [] [] []),false,0)) (dJ k (ac t) fun q=>asP (af q.kids 1) fun x3=>asP (af q.kids 0) fun x4=>ab (x4.kind==3) (aa k (ly k (ac x3) 0) fun E=>I ((ac E.1),E.2.1,E.2.2.1)) (ab (x4.kind==19) (aa k (ly k (ac x3) 0) fun F=>I ((ac F.1),F.2.1,F.2.2.1)) (ab (x4.kind==4) (aa k (ax2 k (ac x4) 0 q.r x3.kind x3.n x3.name x3.r x3.kids x3.sys) fun A=>aa k (ly k (Tm.mk A.1 A.2.1 A.2.2.1 [] A.2.2.2.1 []) A.2.2.2.2) fun J=>I ((ac J.1),J.2.1,J.2.2.1)) (ab (x4.kind==7) (aa k (ax3 k (ac x4) 0 q.r x3.kind x3.n x3.name x3.r x3.kids x3.sys) fun B=>aa k (ly k (Tm.mk B.1 B.2.1 B.2.2.1 [] B.2.2.2.1 []) B.2.2.2.2) fun x=>I ((ac x.1),x.2.1,x.2.2.1)) (ab (x4.kind==11) (aa k (ax1 k (ac x4) 0 q.r x3.kind x3.n x3.name x3.r x3.kids x3.sys) fun j=>aa k (ly k (Tm.mk j.1 j.2.1 j.2.2.1 [] j.2.2.2.1 []) j.2.2.2.2) fun z=>I ((ac z.1),z.2.1,z.2.2.1)) (ab (x4.kind==23) (aa k (JG k (ac q)) fun r13=>I ((ac r13.1),r13.2.1,r13.2.2)) (ab (x4.kind==16) (aa k (axx k (ac q)) fun r14=>I ((ac r14.1),r14.2.1,r14.2.2)) (I ((Tm.mk 0 0 alH [] [] []),false,0))))))))))
def axH (k:Nat) (u:Tm) (aqS aph api:Int) (apl:BA) (apm:LC) (apn:LT) (apr aps:LB) (I:LT×Int->OS S):OS S:=aa k (zb k (ac u) 1 0 aqS) fun r1=>aa k (au5 k 0) fun q=>aa k (zc k 6 [(ac r1.1),(Tm.mk q.1 q.2.1 q.2.2 [] [] [])]) fun j=>I ([(Tm.mk j.1 j.2.1 j.2.2.1 [] j.2.2.2 [])],r1.2)
def axc (k:Nat) (I:LB×Int->OS S) (c0_1 sx:Int) (wl:BA) (aas:LC) (abq:LT) (abZ c0_7:LB) (x:Int->Int->(LB)->OS S) (z q:Int) (j:LB):OS S:=ab (decide ((q:Int)<(c0_7.length:Int))) (asP (af c0_7 q) fun x1=>asP (af x1.kids 0) fun x2=>aa k (axH k (ac x2) z c0_1 sx wl aas abq abZ c0_7) fun A=>aa k (aq3 k x1.face A.1) fun B=>asP (aw 1099511627776 j.length [B].length) fun x5=>x A.2 (su .i64 (q+1)) (j++[B])) (I (j,z))
def avX (k:Nat) (I:LB×Int->OS S) (c0_1 sx:Int) (wl:BA) (aas:LC) (abq:LT) (abZ c0_7:LB):Nat->Int->Int->(LB)->OS S
 |0=>fun _ _ _=> .none
 |m+1=>fun q x j=>axc k I c0_1 sx wl aas abq abZ c0_7 (avX k I c0_1 sx wl aas abq abZ c0_7 m) q x j
def aAf (k:Nat) (I:LB×Int->OS S) (J0:Int->Int->(LB)->OS S) (alJ c0_1 sx:Int) (wl:BA) (aas:LC) (abq:LT) (abZ c0_7:LB):OS S:=J0 alJ 0 ([]:LB)
def avA (k:Nat) (alJ c0_1 sx:Int) (wl:BA) (aas:LC) (abq:LT) (abZ c0_7:LB) (I:LB×Int->OS S):OS S:=aAf k I (fun q x j=>avX k I c0_1 sx wl aas abq abZ c0_7 k q x j) alJ c0_1 sx wl aas abq abZ c0_7
def axI (k:Nat) (t:Tm) (alJ c0_1 sx:Int) (wl:BA) (aas:LC) (abq:LT) (abZ c0_7:LB) (I:Int×Int×BA×LT×Int->OS S):OS S:=aa k (zb k (Tm.mk c0_1 sx wl aas abq abZ) 1 0 alJ) fun r1=>aa k (au5 k 0) fun z=>aa k (zc k 6 [(ac r1.1),(Tm.mk z.1 z.2.1 z.2.2 [] [] [])]) fun q=>aa k (avA k r1.2 c0_1 sx wl aas abq abZ c0_7) fun A=>asP (af t.kids 1) fun x5=>aa k (JM k 15 A.1 [(ac x5),(Tm.mk q.1 q.2.1 q.2.2.1 [] q.2.2.2 [])]) fun j=>aa k (zc k 5 [(Tm.mk j.1 j.2.1 j.2.2.1 [] j.2.2.2.1 j.2.2.2.2)]) fun x=>I (x.1,x.2.1,x.2.2.1,x.2.2.2,A.2)
def aza (k:Nat) (u:Tm) (c0:Int) (I:LT->OS S):OS S:=aa k (zc k c0 [(ac u)]) fun r1=>I [(Tm.mk r1.1 r1.2.1 r1.2.2.1 [] r1.2.2.2 [])]
def axe (k:Nat) (I:LB->OS S) (alJ c0_1 sx:Int) (wl:BA) (aas:LC) (abq:LT) (abZ c0_7:LB) (c1:Int) (x:Int->(LB)->OS S) (q:Int) (j:LB):OS S:=ab (decide ((q:Int)<(c0_7.length:Int))) (asP (af c0_7 q) fun x1=>asP (af x1.kids 0) fun x2=>aa k (aza k (ac x2) c1) fun A=>aa k (aq3 k x1.face A) fun z=>asP (aw 1099511627776 j.length [z].length) fun x5=>x (su .i64 (q+1)) (j++[z])) (I j)
def avZ (k:Nat) (I:LB->OS S) (alJ c0_1 sx:Int) (wl:BA) (aas:LC) (abq:LT) (abZ c0_7:LB) (c1:Int):Nat->Int->(LB)->OS S
 |0=>fun _ _=> .none
 |m+1=>fun q j=>axe k I alJ c0_1 sx wl aas abq abZ c0_7 c1 (avZ k I alJ c0_1 sx wl aas abq abZ c0_7 c1 m) q j
def aAh (k:Nat) (I:LB->OS S) (J0:Int->(LB)->OS S) (alJ c0_1 sx:Int) (wl:BA) (aas:LC) (abq:LT) (abZ c0_7:LB) (c1:Int):OS S:=J0 0 ([]:LB)
def avC (k:Nat) (alJ c0_1 sx:Int) (wl:BA) (aas:LC) (abq:LT) (abZ c0_7:LB) (c1:Int) (I:LB->OS S):OS S:=aAh k I (fun q j=>avZ k I alJ c0_1 sx wl aas abq abZ c0_7 c1 k q j) alJ c0_1 sx wl aas abq abZ c0_7 c1
def aws (k:Nat) (kind aqS aph api:Int) (apl:BA) (apm:LC) (apn:LT) (apr aps:LB) (I:Int×Int×BA×LT×LB->OS S):OS S:=aa k (zc k kind [(Tm.mk aph api apl apm apn apr)]) fun r1=>aa k (avC k aqS aph api apl apm apn apr aps kind) fun j=>I (r1.1,r1.2.1,r1.2.2.1,r1.2.2.2,j)
def axJ (k:Nat) (t:Tm) (alJ c0_1 sx:Int) (wl:BA) (aas:LC) (abq:LT) (abZ c0_7:LB) (I:Int×Int×BA×LT×Int->OS S):OS S:=aa k (aws k 9 alJ c0_1 sx wl aas abq abZ c0_7) fun r1=>aa k (aws k 10 alJ c0_1 sx wl aas abq abZ c0_7) fun q=>asP (af t.kids 0) fun x3=>aa k (y_ k (ac x3) (Tm.mk r1.1 r1.2.1 r1.2.2.1 [] r1.2.2.2.1 []) r1.2.2.2.2 alJ) fun A=>asP (af t.kids 1) fun x5=>aa k (y8 k (ac x5) 0 1 A.2) fun B=>aa k (za k (ac B.1) (ac A.1) B.2) fun E=>asP (af t.kids 0) fun F=>aa k (JM k 15 r1.2.2.2.2 [(ac F),(Tm.mk r1.1 r1.2.1 r1.2.2.1 [] r1.2.2.2.1 [])]) fun x=>aa k (y9 k (ac E.1) (Tm.mk q.1 q.2.1 q.2.2.1 [] q.2.2.2.1 []) q.2.2.2.2 E.2) fun z=>aa k (zc k 8 [(Tm.mk x.1 x.2.1 x.2.2.1 [] x.2.2.2.1 x.2.2.2.2),(ac z.1)]) fun j=>I (j.1,j.2.1,j.2.2.1,j.2.2.2,z.2)
def axb (k:Nat) (I:Int×Int×BA×LT×Int->OS S) (c0_1 sx:Int) (wl:BA) (aas:LC) (abq:LT) (abZ c0_7:LB) (t x1 x2:Tm) (r6:Int×Int×BA×LC×LT) (A:Int->(LB)->Int->OS S) (B:Int) (j:LB) (v53:Int):OS S:=ab (decide ((v53:Int)<(c0_7.length:Int))) (asP (af c0_7 v53) fun W=>aa k (JK k W.face 1 B) fun Y=>asP (af W.kids 0) fun x9=>aa k (JJ k (ac x9) 1 Y.2) fun E=>aa k (zb k (ac x1) 0 2 E.2) fun F=>aa k (zb k (ac x2) 0 2 F.2) fun J=>aa k (tO k 13 [(Cl.mk 2 0)] [(ac E.1),(ac F.1),(ac J.1)]) fun r13=>aa k (aq3 k Y.1 [(Tm.mk r13.1 r13.2.1 r13.2.2.1 r13.2.2.2.1 r13.2.2.2.2 [])]) fun r14=>asP (aw 1099511627776 j.length [r14].length) fun ad=>A J.2 (j++[r14]) (su .i64 (v53+1))) (aa k (zb k (ac x1) 0 2 B) fun L=>aa k (aq3 k [(Cl.mk 0 1)] [(ac L.1)]) fun z=>asP (aw 1099511627776 j.length [z].length) fun ao=>aa k (zb k (ac x2) 0 2 L.2) fun M=>aa k (aq3 k [(Cl.mk 1 0)] [(ac M.1)]) fun O=>asP (aw 1099511627776 (j++[z]).length [O].length) fun ax=>asP (af t.kids 0) fun T=>aa k (JM k 15 ((j++[z])++[O]) [(ac T),(Tm.mk r6.1 r6.2.1 r6.2.2.1 r6.2.2.2.1 r6.2.2.2.2 [])]) fun q=>aa k (zc k 12 [(Tm.mk q.1 q.2.1 q.2.2.1 [] q.2.2.2.1 q.2.2.2.2)]) fun x=>I (x.1,x.2.1,x.2.2.1,x.2.2.2,M.2))
def avW (k:Nat) (I:Int×Int×BA×LT×Int->OS S) (c0_1 sx:Int) (wl:BA) (aas:LC) (abq:LT) (abZ c0_7:LB) (t x1 x2:Tm) (r6:Int×Int×BA×LC×LT):Nat->Int->(LB)->Int->OS S
 |0=>fun _ _ _=> .none
 |m+1=>fun q j v53=>axb k I c0_1 sx wl aas abq abZ c0_7 t x1 x2 r6 (avW k I c0_1 sx wl aas abq abZ c0_7 t x1 x2 r6 m) q j v53
def aAe (k:Nat) (I:Int×Int×BA×LT×Int->OS S) (J0:Tm->Tm->(Int×Int×BA×LC×LT)->Int->(LB)->Int->OS S) (t:Tm) (alJ c0_1 sx:Int) (wl:BA) (aas:LC) (abq:LT) (abZ c0_7:LB):OS S:=asP (af t.kids 1) fun x1=>asP (af t.kids 2) fun x2=>aa k (zb k (Tm.mk c0_1 sx wl aas abq abZ) 0 1 alJ) fun j=>aa k (zb k (ac x1) 0 1 j.2) fun q=>aa k (zb k (ac x2) 0 1 q.2) fun x=>aa k (tO k 13 [(Cl.mk 1 0)] [(ac j.1),(ac q.1),(ac x.1)]) fun z=>J0 x1 x2 z x.2 ([]:LB) 0
def axG (k:Nat) (t:Tm) (alJ c0_1 sx:Int) (wl:BA) (aas:LC) (abq:LT) (abZ c0_7:LB) (I:Int×Int×BA×LT×Int->OS S):OS S:=aAe k I (fun x1 x2 x q j v53=>avW k I c0_1 sx wl aas abq abZ c0_7 t x1 x2 x k q j v53) t alJ c0_1 sx wl aas abq abZ c0_7
def axt (k:Nat) (t:Tm) (c0:Int) (I:Int×Int×BA×LT×Int->OS S):OS S:=aa k (arP k (ac t) 1 0 c0) fun r1=>aa k (arP k (ac t) 2 1 r1.2) fun B=>aa k (asX k 1) fun z=>aa k (asX k 0) fun A=>aa k (arj k 11 [(ac B.1),(Tm.mk z.1 z.2.1 z.2.2 [] [] []),(Tm.mk A.1 A.2.1 A.2.2 [] [] [])]) fun j=>aa k (arj k 4 [(ac r1.1),(Tm.mk j.1 j.2.1 j.2.2.1 [] j.2.2.2 [])]) fun q=>aa k (arj k 7 [(ac t),(Tm.mk q.1 q.2.1 q.2.2.1 [] q.2.2.2 [])]) fun x=>I (x.1,x.2.1,x.2.2.1,x.2.2.2,B.2)
def axp (k:Nat) (t a:Tm) (I:Tm×Int->OS S):OS S:=aa k (m9 k [(ac t),(ac a)]) fun r1=>dJ k (ac t) fun M=>aa k (arP k (ac a) 1 0 r1) fun E=>aa k (arj k 4 [(ac M),(ac E.1)]) fun z=>aa k (arP k (ac a) 1 0 E.2) fun F=>aa k (arP k (ac t) 2 0 F.2) fun J=>aa k (arP k (ac a) 2 0 J.2) fun L=>aa k (asX k 1) fun A=>aa k (asX k 0) fun B=>aa k (au2 k (ac J.1) (ac L.1) (Tm.mk A.1 A.2.1 A.2.2 [] [] []) (Tm.mk B.1 B.2.1 B.2.2 [] [] []) L.2) fun j=>aa k (axt k (Tm.mk j.1 j.2.1 j.2.2.1 [] j.2.2.2.1 []) j.2.2.2.2) fun q=>aa k (arj k 4 [(ac F.1),(Tm.mk q.1 q.2.1 q.2.2.1 [] q.2.2.2.1 [])]) fun x=>aa k (arj k 7 [(Tm.mk z.1 z.2.1 z.2.2.1 [] z.2.2.2 []),(Tm.mk x.1 x.2.1 x.2.2.1 [] x.2.2.2 [])]) fun r13=>aa k (eQ k (Tm.mk r13.1 r13.2.1 r13.2.2.1 [] r13.2.2.2 []) q.2.2.2.2) fun r14=>I ((ac r14.1),r14.2.1)
def axV (k:Nat) (t a:Tm) (c0:Int) (I:Tm×Int->OS S):OS S:=aa k (dG k c0) fun r1=>ab (!r1) (I ((Tm.mk 0 0 alH [] [] []),c0)) (aa k (axp k (ac t) (ac a)) fun j=>aa k (asH k (ac j.1) j.2 c0) fun q=>I ((ac q.1),q.2))
def ay2 (k:Nat) (a_r:LC) (I:Int×Int×BA×LC×LT->OS S):OS S:=aa k (asX k 0) fun r1=>aa k (arj k 10 [(Tm.mk r1.1 r1.2.1 r1.2.2 [] [] [])]) fun j=>aa k (asX k 1) fun x=>aa k (asX k 0) fun z=>aa k (arj k 9 [(Tm.mk z.1 z.2.1 z.2.2 [] [] [])]) fun q=>I (13,0,alH,a_r,[(Tm.mk j.1 j.2.1 j.2.2.1 [] j.2.2.2 []),(Tm.mk x.1 x.2.1 x.2.2 [] [] []),(Tm.mk q.1 q.2.1 q.2.2.1 [] q.2.2.2 [])])
def axr (k:Nat) (I:Int×Int×BA×LT->OS S):OS S:=aa k (asX k 0) fun r1=>aa k (asX k 0) fun O=>aa k (arj k 12 [(Tm.mk O.1 O.2.1 O.2.2 [] [] [])]) fun E=>aa k (arj k 8 [(Tm.mk r1.1 r1.2.1 r1.2.2 [] [] []),(Tm.mk E.1 E.2.1 E.2.2.1 [] E.2.2.2 [])]) fun F=>aa k (ay2 k [(Cl.mk 1 0)]) fun A=>aa k (ay2 k [(Cl.mk 3 0)]) fun B=>aa k (arj k 12 [(Tm.mk B.1 B.2.1 B.2.2.1 B.2.2.2.1 B.2.2.2.2 [])]) fun J=>aa k (arj k 8 [(Tm.mk A.1 A.2.1 A.2.2.1 A.2.2.2.1 A.2.2.2.2 []),(Tm.mk J.1 J.2.1 J.2.2.1 [] J.2.2.2 [])]) fun L=>aa k (arj k 12 [(Tm.mk L.1 L.2.1 L.2.2.1 [] L.2.2.2 [])]) fun M=>aa k (arj k 5 [(Tm.mk M.1 M.2.1 M.2.2.1 [] M.2.2.2 [])]) fun j=>aa k (asX k 0) fun z=>aa k (arj k 5 [(Tm.mk z.1 z.2.1 z.2.2 [] [] [])]) fun q=>aa k (arj k 8 [(Tm.mk F.1 F.2.1 F.2.2.1 [] F.2.2.2 []),(Tm.mk j.1 j.2.1 j.2.2.1 [] j.2.2.2 [])]) fun r13=>aa k (arj k 5 [(Tm.mk r13.1 r13.2.1 r13.2.2.1 [] r13.2.2.2 [])]) fun r14=>aa k (arj k 8 [(Tm.mk q.1 q.2.1 q.2.2.1 [] q.2.2.2 []),(Tm.mk r14.1 r14.2.1 r14.2.2.1 [] r14.2.2.2 [])]) fun x=>I (x.1,x.2.1,x.2.2.1,x.2.2.2)
def azb (k:Nat) (u:Tm) (aqS aph api:Int) (apl:BA) (apm:LC) (apn:LT) (apr aps:LB) (I:LT×Int->OS S):OS S:=aa k (JI k (ac u) aqS) fun r1=>aa k (zb k (Tm.mk aph api apl apm apn apr) 0 1 r1.2) fun x=>aa k (axV k (ac u) (ac x.1) x.2) fun z=>aa k (axr k) fun j=>aa k (zc k 14 [(ac z.1),(Tm.mk j.1 j.2.1 j.2.2.1 [] j.2.2.2 [])]) fun q=>I ([(ac r1.1),(Tm.mk q.1 q.2.1 q.2.2.1 [] q.2.2.2 [])],z.2)
def axd (k:Nat) (I:LB×Int->OS S) (c0_1 sx:Int) (wl:BA) (aas:LC) (abq:LT) (abZ c0_7:LB) (x:Int->Int->(LB)->OS S) (z q:Int) (j:LB):OS S:=ab (decide ((q:Int)<(c0_7.length:Int))) (asP (af c0_7 q) fun x1=>asP (af x1.kids 0) fun x2=>aa k (azb k (ac x2) z c0_1 sx wl aas abq abZ c0_7) fun A=>aa k (aq3 k x1.face A.1) fun B=>asP (aw 1099511627776 j.length [B].length) fun x5=>x A.2 (su .i64 (q+1)) (j++[B])) (I (j,z))
def avY (k:Nat) (I:LB×Int->OS S) (c0_1 sx:Int) (wl:BA) (aas:LC) (abq:LT) (abZ c0_7:LB):Nat->Int->Int->(LB)->OS S
 |0=>fun _ _ _=> .none
 |m+1=>fun q x j=>axd k I c0_1 sx wl aas abq abZ c0_7 (avY k I c0_1 sx wl aas abq abZ c0_7 m) q x j
def aAg (k:Nat) (I:LB×Int->OS S) (J0:Int->Int->(LB)->OS S) (alJ c0_1 sx:Int) (wl:BA) (aas:LC) (abq:LT) (abZ c0_7:LB):OS S:=J0 alJ 0 ([]:LB)
def avB (k:Nat) (alJ c0_1 sx:Int) (wl:BA) (aas:LC) (abq:LT) (abZ c0_7:LB) (I:LB×Int->OS S):OS S:=aAg k I (fun q x j=>avY k I c0_1 sx wl aas abq abZ c0_7 k q x j) alJ c0_1 sx wl aas abq abZ c0_7
def axK (k:Nat) (alJ c0_1 sx:Int) (wl:BA) (aas:LC) (abq:LT) (abZ c0_7:LB) (I:Int×Int×BA×LT×LB×Int->OS S):OS S:=aa k (avB k alJ c0_1 sx wl aas abq abZ c0_7) fun r1=>aa k (JM k 16 r1.1 [(Tm.mk c0_1 sx wl aas abq abZ)]) fun j=>I (j.1,j.2.1,j.2.2.1,j.2.2.2.1,j.2.2.2.2,r1.2)
def axz (k:Nat) (a_x:(Br Tm)) (c1:LB) (c2:Int) (I:(Br Tm)×Int->OS S):OS S:=aa k (zc k 3 ([]:LT)) fun r1=>aa k (aun k (Tm.mk r1.1 r1.2.1 r1.2.2.1 [] r1.2.2.2 []) c1) fun q=>aa k (zb k (Tm.mk q.1 q.2.1 q.2.2.1 [] q.2.2.2.1 q.2.2.2.2) 0 1 c2) fun j=>asP (af a_x.kids 0) fun x4=>aa k (aq3 k a_x.face [(Tm.mk j.1.kind j.1.n j.1.name j.1.r [(ac x4)] j.1.sys)]) fun x=>I (x,j.2)
def aw8 (k:Nat) (I:LB×Int->OS S) (c1 l:LB) (q:Int->Int->(LB)->OS S) (x v10:Int) (j:LB):OS S:=ab (decide ((v10:Int)<(l.length:Int))) (asP (af l v10) fun x1=>aa k (axz k x1 c1 x) fun z=>asP (aw 1099511627776 j.length [z.1].length) fun x3=>q z.2 (su .i64 (v10+1)) (j++[z.1])) (I (j,x))
def avT (k:Nat) (I:LB×Int->OS S) (c1 l:LB):Nat->Int->Int->(LB)->OS S
 |0=>fun _ _ _=> .none
 |m+1=>fun q v10 j=>aw8 k I c1 l (avT k I c1 l m) q v10 j
def aDn (k:Nat) (I:LB×Int->OS S) (J0:Int->Int->(LB)->OS S) (l c1:LB) (c2:Int):OS S:=J0 c2 0 ([]:LB)
def aAQ (k:Nat) (l c1:LB) (c2:Int) (I:LB×Int->OS S):OS S:=aDn k I (fun q v10 j=>avT k I c1 l k q v10 j) l c1 c2
def axA (k:Nat) (a_x:(Br Tm)) (c1 c2:Tm) (c3:Int) (I:(Br Tm)×Int->OS S):OS S:=asP (af a_x.kids 1) fun x1=>aa k (zb k (ac x1) 0 1 c3) fun x=>aa k (aum k (ac x.1)) fun j=>asP (af a_x.kids 0) fun x4=>aa k (y_ k (ac x4) (ac c1) c2.sys x.2) fun z=>aa k (zc k 6 [(Tm.mk j.1 j.2.1 j.2.2.1 [] j.2.2.2 []),(ac z.1)]) fun q=>aa k (aq3 k a_x.face [(Tm.mk q.1 q.2.1 q.2.2.1 [] q.2.2.2 [])]) fun A=>I (A,z.2)
def aw7 (k:Nat) (I:LB×Int->OS S) (c1 c2:Tm) (l:LB) (q:Int->Int->(LB)->OS S) (x v10:Int) (j:LB):OS S:=ab (decide ((v10:Int)<(l.length:Int))) (asP (af l v10) fun x1=>aa k (axA k x1 (ac c1) (ac c2) x) fun z=>asP (aw 1099511627776 j.length [z.1].length) fun x3=>q z.2 (su .i64 (v10+1)) (j++[z.1])) (I (j,x))
def avS (k:Nat) (I:LB×Int->OS S) (c1 c2:Tm) (l:LB):Nat->Int->Int->(LB)->OS S
 |0=>fun _ _ _=> .none
 |m+1=>fun q v10 j=>aw7 k I c1 c2 l (avS k I c1 c2 l m) q v10 j
def aDm (k:Nat) (I:LB×Int->OS S) (J0:Int->Int->(LB)->OS S) (l:LB) (c1 c2:Tm) (c3:Int):OS S:=J0 c3 0 ([]:LB)
def ay9 (k:Nat) (l:LB) (c1 c2:Tm) (c3:Int) (I:LB×Int->OS S):OS S:=aDm k I (fun q v10 j=>avS k I c1 c2 l k q v10 j) l c1 c2 c3
def ay6 (k:Nat) (a_x:(Br Tm)) (c0 c1:Tm) (I:(Br Tm)->OS S):OS S:=asP (af a_x.kids 0) fun x1=>aa k (JM k 15 c0.sys [(ac x1),(ac c1)]) fun j=>aa k (aq3 k a_x.face [(Tm.mk j.1 j.2.1 j.2.2.1 [] j.2.2.2.1 j.2.2.2.2)]) fun q=>I q
def aw6 (k:Nat) (I:LB->OS S) (c0 c1:Tm) (l:LB) (q:Int->(LB)->OS S) (v10:Int) (j:LB):OS S:=ab (decide ((v10:Int)<(l.length:Int))) (asP (af l v10) fun x1=>aa k (ay6 k x1 (ac c0) (ac c1)) fun x=>asP (aw 1099511627776 j.length [x].length) fun x3=>q (su .i64 (v10+1)) (j++[x])) (I j)
def avR (k:Nat) (I:LB->OS S) (c0 c1:Tm) (l:LB):Nat->Int->(LB)->OS S
 |0=>fun _ _=> .none
 |m+1=>fun v10 j=>aw6 k I c0 c1 l (avR k I c0 c1 l m) v10 j
def aAb (k:Nat) (I:LB->OS S) (J0:Int->(LB)->OS S) (l:LB) (c0 c1:Tm):OS S:=J0 0 ([]:LB)
def awr (k:Nat) (l:LB) (c0 c1:Tm) (I:LB->OS S):OS S:=aAb k I (fun v10 j=>avR k I c0 c1 l k v10 j) l c0 c1
def axy (k:Nat) (t:Tm) (I:Tm×Bool×Int->OS S):OS S:=aa k (asi k (ac t)) fun r1=>ab (!(r1==0)) (I ((Tm.mk 0 0 alH [] [] []),false,r1)) (ab (!(t.kind==15)) (I ((Tm.mk 0 0 alH [] [] []),false,0)) (asP (af t.kids 0) fun x2=>ab (!(x2.kind==16)) (I ((Tm.mk 0 0 alH [] [] []),false,0)) (dJ k (ac t) fun z=>asP (af z.kids 0) fun x4=>asP (af z.kids 1) fun x5=>asP (af z.kids 0) fun x6=>aa k (au4 k (ac x6)) fun F=>aa k (aAQ k z.sys F 0) fun A=>aa k (ay9 k x4.sys (ac x5) (ac z) A.2) fun B=>asP (aw 1099511627776 A.1.length B.1.length) fun J=>asP (af x4.kids 0) fun E=>aa k (aun k (ac x5) F) fun j=>aa k (JM k 15 (A.1++B.1) [(ac E),(Tm.mk j.1 j.2.1 j.2.2.1 [] j.2.2.2.1 j.2.2.2.2)]) fun r13=>aa k (awr k x4.sys (ac z) (ac x5)) fun r14=>aa k (JM k 17 r14 [(Tm.mk r13.1 r13.2.1 r13.2.2.1 [] r13.2.2.2.1 r13.2.2.2.2)]) fun q=>aa k (ly k (Tm.mk q.1 q.2.1 q.2.2.1 [] q.2.2.2.1 q.2.2.2.2) B.2) fun x=>I ((ac x.1),x.2.1,x.2.2.1))))
def cG (k:Nat) (t:Tm) (I:Tm×Bool×Int->OS S):OS S:=aa k (asi k (ac t)) fun r1=>ab (!(r1==0)) (I ((Tm.mk 0 0 alH [] [] []),false,r1)) (ab (!(t.kind==15)) (I ((Tm.mk 0 0 alH [] [] []),false,0)) (dJ k (ac t) fun q=>asP (af q.kids 1) fun x3=>asP (af q.kids 0) fun x4=>ab (x4.kind==4) (aa k (axI k (ac x4) 0 x3.kind x3.n x3.name x3.r x3.kids x3.sys q.sys) fun A=>aa k (ly k (Tm.mk A.1 A.2.1 A.2.2.1 [] A.2.2.2.1 []) A.2.2.2.2) fun F=>I ((ac F.1),F.2.1,F.2.2.1)) (ab (x4.kind==7) (aa k (axJ k (ac x4) 0 x3.kind x3.n x3.name x3.r x3.kids x3.sys q.sys) fun B=>aa k (ly k (Tm.mk B.1 B.2.1 B.2.2.1 [] B.2.2.2.1 []) B.2.2.2.2) fun J=>I ((ac J.1),J.2.1,J.2.2.1)) (ab (x4.kind==11) (aa k (axG k (ac x4) 0 x3.kind x3.n x3.name x3.r x3.kids x3.sys q.sys) fun E=>aa k (ly k (Tm.mk E.1 E.2.1 E.2.2.1 [] E.2.2.2.1 []) E.2.2.2.2) fun x=>I ((ac x.1),x.2.1,x.2.2.1)) (ab (x4.kind==3) (aa k (axK k 0 x3.kind x3.n x3.name x3.r x3.kids x3.sys q.sys) fun j=>aa k (ly k (Tm.mk j.1 j.2.1 j.2.2.1 [] j.2.2.2.1 j.2.2.2.2.1) j.2.2.2.2.2) fun z=>I ((ac z.1),z.2.1,z.2.2.1)) (ab (x4.kind==16) (aa k (axy k (ac q)) fun r13=>I ((ac r13.1),r13.2.1,r13.2.2)) (I ((Tm.mk 0 0 alH [] [] []),false,0))))))))
def co (k:Nat) (I:Tm×Bool×Int->OS S) (t:Tm) (defs:List Df):OS S:=aa k (cR k defs (ac t)) fun j=>ab (j.2) (I ((ac j.1),true,0)) (I ((Tm.mk 0 0 alH [] [] []),false,0))
def bK (k:Nat) (I:Tm×Bool×Int->OS S) (t:Tm) (defs:List Df):Nat->OS S
 |0=> .none
 |_+1=>co k I t defs
def bu (k:Nat) (I:Tm×Bool×Int->OS S) (t:Tm) (defs:List Df) (J1:OS S) (E:Int->Int->BA->(LC)->(LT)->(LB)->Int->Int->Bool->OS S) (F J:Int) (L:BA) (M:LC) (O:LT) (B:LB) (v10 v20:Int) (j:Bool):OS S:=ab (decide ((v20:Int)<4)) (ab (v20==0) (aa k (axl k (ac t)) fun q=>ab (q.2.1) (ab (q.2.1) (I ((ac q.1),q.2.1,q.2.2)) (ab (!(q.2.2==0)) (I ((ac q.1),q.2.1,q.2.2)) (J1))) (ab (!(q.2.2==0)) (ab (q.2.1) (I ((ac q.1),q.2.1,q.2.2)) (ab (!(q.2.2==0)) (I ((ac q.1),q.2.1,q.2.2)) (J1))) (E q.1.kind q.1.n q.1.name q.1.r q.1.kids q.1.sys q.2.2 (su .i64 (v20+1)) q.2.1))) (ab (v20==1) (aa k (tL k (ac t)) fun x=>ab (x.2.1) (ab (x.2.1) (I ((ac x.1),x.2.1,x.2.2)) (ab (!(x.2.2==0)) (I ((ac x.1),x.2.1,x.2.2)) (J1))) (ab (!(x.2.2==0)) (ab (x.2.1) (I ((ac x.1),x.2.1,x.2.2)) (ab (!(x.2.2==0)) (I ((ac x.1),x.2.1,x.2.2)) (J1))) (E x.1.kind x.1.n x.1.name x.1.r x.1.kids x.1.sys x.2.2 (su .i64 (v20+1)) x.2.1))) (ab (v20==2) (aa k (axZ k (ac t)) fun z=>ab (z.2.1) (ab (z.2.1) (I ((ac z.1),z.2.1,z.2.2)) (ab (!(z.2.2==0)) (I ((ac z.1),z.2.1,z.2.2)) (J1))) (ab (!(z.2.2==0)) (ab (z.2.1) (I ((ac z.1),z.2.1,z.2.2)) (ab (!(z.2.2==0)) (I ((ac z.1),z.2.1,z.2.2)) (J1))) (E z.1.kind z.1.n z.1.name z.1.r z.1.kids z.1.sys z.2.2 (su .i64 (v20+1)) z.2.1))) (ab (v20==3) (aa k (cG k (ac t)) fun A=>ab (A.2.1) (ab (A.2.1) (I ((ac A.1),A.2.1,A.2.2)) (ab (!(A.2.2==0)) (I ((ac A.1),A.2.1,A.2.2)) (J1))) (ab (!(A.2.2==0)) (ab (A.2.1) (I ((ac A.1),A.2.1,A.2.2)) (ab (!(A.2.2==0)) (I ((ac A.1),A.2.1,A.2.2)) (J1))) (E A.1.kind A.1.n A.1.name A.1.r A.1.kids A.1.sys A.2.2 (su .i64 (v20+1)) A.2.1))) (ab (j) (ab (j) (I ((Tm.mk F J L M O B),j,v10)) (ab (!(v10==0)) (I ((Tm.mk F J L M O B),j,v10)) (J1))) (ab (!(v10==0)) (ab (j) (I ((Tm.mk F J L M O B),j,v10)) (ab (!(v10==0)) (I ((Tm.mk F J L M O B),j,v10)) (J1))) (E F J L M O B v10 (su .i64 (v20+1)) j))))))) (ab (j) (I ((Tm.mk F J L M O B),j,v10)) (ab (!(v10==0)) (I ((Tm.mk F J L M O B),j,v10)) (J1)))
def bH (k:Nat) (I:Tm×Bool×Int->OS S) (t:Tm) (defs:List Df):Nat->Int->Int->BA->(LC)->(LT)->(LB)->Int->Int->Bool->OS S
 |0=>fun _ _ _ _ _ _ _ _ _=> .none
 |m+1=>fun x z A B E q v10 v20 j=>bu k I t defs (bK k I t defs k) (bH k I t defs m) x z A B E q v10 v20 j
def aAp (k:Nat) (I:Tm×Bool×Int->OS S) (J0:Int->Int->BA->(LC)->(LT)->(LB)->Int->Int->Bool->OS S) (defs:List Df) (t:Tm):OS S:=aa k (asi k (ac t)) fun r1=>ab (!(r1==0)) (I ((Tm.mk 0 0 alH [] [] []),false,r1)) (J0 0 0 alH [] [] [] 0 0 false)
def a_ (k:Nat) (defs:List Df) (t:Tm) (I:Tm×Bool×Int->OS S):OS S:=aAp k I (fun x z A B E q v10 v20 j=>bH k I t defs k x z A B E q v10 v20 j) defs t
def awm (k:Nat) (I:Pan (Int×Int) (Tm×Bool×Int)->OS S) (alJ:List Df) (c0_1:Int) (r1:Tm×Bool×Int):OS S:=ab (c0_1==0) (I (.pan (220,c0_1))) (I (.ok ((ac r1.1),true,su .i64 (c0_1-1))))
def ayf (k:Nat) (I:Pan (Int×Int) (Tm×Bool×Int)->OS S) (alJ:List Df) (c0_1:Int) (r1:Tm×Bool×Int):Nat->OS S
 |0=> .none
 |_+1=>awm k I alJ c0_1 r1
def awl (k:Nat) (I:Pan (Int×Int) (Tm×Bool×Int)->OS S) (alJ:List Df) (c0_1:Int) (t:Tm) (r1:Tm×Bool×Int) (J1:OS S):OS S:=ab (!r1.2.1) (ab (r1.2.2==0) (I (.ok ((ac t),false,c0_1))) (J1)) (J1)
def azv (k:Nat) (I:Pan (Int×Int) (Tm×Bool×Int)->OS S) (alJ:List Df) (c0_1:Int) (t:Tm) (r1:Tm×Bool×Int):Nat->OS S
 |0=> .none
 |_+1=>awl k I alJ c0_1 t r1 (ayf k I alJ c0_1 r1 k)
def aAi (k:Nat) (I:Pan (Int×Int) (Tm×Bool×Int)->OS S) (J0:(Tm×Bool×Int)->OS S) (t:Tm) (alJ:List Df) (c0_1:Int):OS S:=aa k (a_ k alJ (ac t)) fun r1=>ab (!(r1.2.2==0)) (ab (decide ((c0_1:Int)>0)) (I (.pan (r1.2.2,c0_1))) (J0 r1)) (J0 r1)
def axL (k:Nat) (t:Tm) (alJ:List Df) (c0_1:Int) (I:Pan (Int×Int) (Tm×Bool×Int)->OS S):OS S:=aAi k I (fun r1=>azv k I alJ c0_1 t r1 k) t alJ c0_1
def bo (k:Nat) (I:Int->OS S) (t:Tm) (v3:Int):OS S:=aa k (zA k t.kind) fun r1=>ab (decide (((t.kids.length:Int):Int)<r1)) (I (-1)) (I v3)
def aV (k:Nat) (I:Int->OS S) (t:Tm):Nat->Int->OS S
 |0=>fun _=> .none
 |_+1=>fun v3=>bo k I t v3
def aAo (k:Nat) (I:Int->OS S) (J0:Int->OS S) (t:Tm):OS S:=ab (t.kind==6) (J0 0) (ab (t.kind==9) (J0 0) (ab (t.kind==10) (J0 0) (ab (t.kind==13) (J0 0) (ab (t.kind==18) (J0 0) (ab (t.kind==15) (J0 0) (ab (t.kind==14) (J0 0) (ab (t.kind==22) (J0 3) (ab (t.kind==27) (J0 4) (J0 (-1))))))))))
def aU (k:Nat) (t:Tm) (I:Int->OS S):OS S:=aAo k I (fun v3=>aV k I t k v3) t
abbrev arT (S:Type):=Tm->Tm->(Bool->OS S)->OS S
def axi (hd:arT S) (k:Nat) (I:Bool->OS S) (s2 s1:LT) (j:Int->OS S) (v17:Int):OS S:=ab (decide ((v17:Int)<(s1.length:Int))) (asP (af s1 v17) fun x1=>asP (af s2 v17) fun x2=>hd (ac x1) (ac x2) fun q=>ab (!q) (I false) (j (su .i64 (v17+1)))) (I true)
def av3 (hd:arT S) (k:Nat) (I:Bool->OS S) (s2 s1:LT):Nat->Int->OS S
 |0=>fun _=> .none
 |m+1=>fun v17=>axi hd k I s2 s1 (av3 hd k I s2 s1 m) v17
def aAm (hd:arT S) (k:Nat) (I:Bool->OS S) (J0:Int->OS S) (s1 s2:LT):OS S:=ab (!((s1.length:Int)==(s2.length:Int))) (I false) (J0 0)
def awv (hd:arT S) (k:Nat) (s1 s2:LT) (I:Bool->OS S):OS S:=aAm hd k I (fun v17=>av3 hd k I s2 s1 k v17) s1 s2
def axY (hd:arT S) (k:Nat) (a_x y:(Br Tm)) (I:Bool->OS S):OS S:=aa k (zz k a_x.face y.face) fun r1=>ab (r1) (aa k (awv hd k a_x.kids y.kids) fun j=>I j) (I false)
def axh (hd:arT S) (k:Nat) (I:Bool->OS S) (s2 s1:LB) (j:Int->OS S) (v17:Int):OS S:=ab (decide ((v17:Int)<(s1.length:Int))) (asP (af s1 v17) fun x1=>asP (af s2 v17) fun x2=>aa k (axY hd k x1 x2) fun q=>ab (!q) (I false) (j (su .i64 (v17+1)))) (I true)
def av2 (hd:arT S) (k:Nat) (I:Bool->OS S) (s2 s1:LB):Nat->Int->OS S
 |0=>fun _=> .none
 |m+1=>fun v17=>axh hd k I s2 s1 (av2 hd k I s2 s1 m) v17
def aAl (hd:arT S) (k:Nat) (I:Bool->OS S) (J0:Int->OS S) (s1 s2:LB):OS S:=ab (!((s1.length:Int)==(s2.length:Int))) (I false) (J0 0)
def axX (hd:arT S) (k:Nat) (s1 s2:LB) (I:Bool->OS S):OS S:=aAl hd k I (fun v17=>av2 hd k I s2 s1 k v17) s1 s2
def aAr (hd:arT S) (k:Nat) (I:Bool->OS S) (a b:Tm):OS S:=ab (a.kind==b.kind) (ab (a.n==b.n) (ab (a.name==b.name) (aa k (zz k a.r b.r) fun r1=>ab (r1) (aa k (awv hd k a.kids b.kids) fun j=>ab (j) (aa k (axX hd k a.sys b.sys) fun q=>I q) (I false)) (I false)) (I false)) (I false)) (I false)
def ate:Nat->Tm->Tm->(Bool->OS S)->OS S
 |0=>fun _ _ _=> .none
 |k+1=>fun a b I=>aAr (ate k) k I a b
abbrev atG (S:Type):=Tm->(List Df)->Int->(Pan (Int×Int) (Tm×Int)->OS S)->OS S
def auo (hd:atG S) (k:Nat) (t:Tm) (a_at:Int) (alJ:List Df) (c0_1:Int) (I:Pan (Int×Int) (Tm×Bool×Int)->OS S):OS S:=asP (af t.kids a_at) fun x1=>hd (ac x1) alJ c0_1 fun j=>Pan.elim j (fun j=>asP (af t.kids a_at) fun x5=>ate k (ac j.1) (ac x5) fun x=>ab (x) (I (.ok ((ac t),false,j.2))) (asP (aw 1099511627776 0 t.kids.length) fun z=>asP (af t.kids a_at) fun A=>asP (af t.kids a_at) fun B=>I (.ok ((Tm.mk t.kind t.n t.name t.r (t.kids.set (arM a_at) (ac j.1)) t.sys),true,j.2)))) (fun q=>I (.pan (q.1,q.2)))
def ayZ (hd:atG S) (k:Nat) (I:Pan (Int×Int) (Tm×Int)->OS S) (alJ:List Df) (q:Int->Tm->OS S) (F:Int) (j:Tm):OS S:=aa k (axL k (ac j) alJ F) fun z=>Pan.elim z (fun z=>ab (z.2.1) (q z.2.2 (ac z.1)) (aa k (aU k (ac j)) fun L=>ab (decide ((L:Int)>=0)) (aa k (auo hd k (ac j) L alJ z.2.2) fun A=>Pan.elim A (fun A=>ab (A.2.1) (q A.2.2 (ac A.1)) (ab (j.kind==14) (asP (af j.kids 0) fun T=>ab (T.kind==23) (aa k (auo hd k (ac j) 1 alJ A.2.2) fun x=>Pan.elim x (fun x=>ab (x.2.1) (q x.2.2 (ac x.1)) (I (.ok ((ac j),x.2.2)))) (fun B=>I (.pan (B.1,B.2)))) (I (.ok ((ac j),A.2.2)))) (I (.ok ((ac j),A.2.2))))) (fun M=>I (.pan (M.1,M.2)))) (ab (j.kind==14) (asP (af j.kids 0) fun J=>ab (J.kind==23) (aa k (auo hd k (ac j) 1 alJ z.2.2) fun r14=>Pan.elim r14 (fun r14=>ab (r14.2.1) (q r14.2.2 (ac r14.1)) (I (.ok ((ac j),r14.2.2)))) (fun E=>I (.pan (E.1,E.2)))) (I (.ok ((ac j),z.2.2)))) (I (.ok ((ac j),z.2.2)))))) (fun O=>I (.pan (O.1,O.2)))
def aue (hd:atG S) (k:Nat) (I:Pan (Int×Int) (Tm×Int)->OS S) (alJ:List Df):Nat->Int->Tm->OS S
 |0=>fun _ _=> .none
 |m+1=>fun j q=>ayZ hd k I alJ (aue hd k I alJ m) j q
def ayL (hd:atG S) (k:Nat) (I:Pan (Int×Int) (Tm×Int)->OS S) (J0:Int->Tm->OS S) (t:Tm) (alJ:List Df) (c0_1:Int):OS S:=J0 c0_1 (ac t)
def ar1:Nat->Tm->(List Df)->Int->(Pan (Int×Int) (Tm×Int)->OS S)->OS S
 |0=>fun _ _ _ _=> .none
 |k+1=>fun t alJ c0_1 I=>ayL (ar1 k) k I (fun j q=>aue (ar1 k) k I alJ k j q) t alJ c0_1
def auI (k:Nat) (defs:List Df) (t:Tm) (fuel:Int) (I:Tm×Int×Int->OS S):OS S:=aa k (asi k (ac t)) fun r1=>ab (!(r1==0)) (I ((Tm.mk 0 0 alH [] [] []),0,r1)) (ab (decide ((fuel:Int)<0)) (I ((Tm.mk 0 0 alH [] [] []),0,2)) (ab (decide ((fuel:Int)>100000)) (I ((Tm.mk 0 0 alH [] [] []),0,2)) (dJ k (ac t) fun q=>ar1 k (ac q) defs fuel fun j=>Pan.elim j (fun j=>I ((ac j.1),j.2,0)) (fun x=>I ((Tm.mk 0 0 alH [] [] []),0,x.1)))))
abbrev gY (S:Type):=Tm->Int->(Int->OS S)->OS S
def xL (hd:gY S) (k:Nat) (I:Int->OS S) (t:Tm) (most i7:Int) (q:Int->Int->OS S) (x:Int->Int->OS S) (j z:Int):OS S:=asP (af t.sys i7) fun x5=>ab (decide ((z:Int)<(x5.kids.length:Int))) (ab (decide ((j:Int)<=most)) (asP (af t.sys i7) fun x6=>asP (af x6.kids z) fun A=>hd (ac A) (su .i64 (most-j)) fun B=>x (su .i64 (j+B)) (su .i64 (z+1))) (q j (su .i64 (i7+1)))) (q j (su .i64 (i7+1)))
def kA (hd:gY S) (k:Nat) (I:Int->OS S) (j:Int->Int->OS S) (t:Tm) (most i7:Int):Nat->Int->Int->OS S
 |0=>fun _ _=> .none
 |m+1=>fun q x=>xL hd k I t most i7 j (kA hd k I j t most i7 m) q x
def sS (hd:gY S) (k:Nat) (I:Int->OS S) (t:Tm) (most:Int) (J2:Int->Int->Int->OS S) (q:Int->Int->OS S) (j i7:Int):OS S:=ab (decide ((i7:Int)<(t.sys.length:Int))) (ab (decide ((j:Int)<=most)) (asP (af t.sys i7) fun x3=>ab (decide (((x3.face.length:Int):Int)>most)) (I (su .i64 (most+1))) (asP (af t.sys i7) fun x4=>J2 i7 (su .i64 ((su .i64 (j+1))+(x4.face.length:Int))) 0)) (I j)) (I j)
def jl (hd:gY S) (k:Nat) (I:Int->OS S) (t:Tm) (most:Int):Nat->Int->Int->OS S
 |0=>fun _ _=> .none
 |m+1=>fun q i7=>sS hd k I t most (fun i7 j x=>kA hd k I (jl hd k I t most m) t most i7 k j x) (jl hd k I t most m) q i7
def sR (hd:gY S) (k:Nat) (I:Int->OS S) (t:Tm) (most:Int) (J1:Int->Int->OS S) (j:Int->Int->OS S) (v5 i6:Int):OS S:=ab (decide ((i6:Int)<(t.kids.length:Int))) (ab (decide ((v5:Int)<=most)) (asP (af t.kids i6) fun x1=>hd (ac x1) (su .i64 (most-v5)) fun q=>j (su .i64 (v5+q)) (su .i64 (i6+1))) (J1 v5 0)) (J1 v5 0)
def nQ (hd:gY S) (k:Nat) (I:Int->OS S) (t:Tm) (most:Int):Nat->Int->Int->OS S
 |0=>fun _ _=> .none
 |m+1=>fun v5 i6=>sR hd k I t most (fun j i7=>jl hd k I t most k j i7) (nQ hd k I t most m) v5 i6
def Io (hd:gY S) (k:Nat) (I:Int->OS S) (J0:Int->Int->OS S) (t:Tm) (most:Int):OS S:=ab (decide (((t.r.length:Int):Int)>most)) (I (su .i64 (most+1))) (ab (decide (((t.name.size:Int):Int)>most)) (I (su .i64 (most+1))) (J0 (su .i64 ((su .i64 (1+(t.r.length:Int)))+(t.name.size:Int))) 0))
def gE:Nat->Tm->Int->(Int->OS S)->OS S
 |0=>fun _ _ _=> .none
 |k+1=>fun t most I=>Io (gE k) k I (fun v5 i6=>nQ (gE k) k I t most k v5 i6) t most
def axP (k:Nat) (t:Tm) (I:Bool->OS S):OS S:=gE k (ac t) 80 fun r1=>I (decide ((r1:Int)>80))
def axO (k:Nat) (t:Tm) (I:Bool->OS S):OS S:=gE k (ac t) 100 fun r1=>I (decide ((r1:Int)>100))
def axg (k:Nat) (I:Bool->OS S) (l:List Df) (j:Int->OS S) (v10:Int):OS S:=ab (decide ((v10:Int)<(l.length:Int))) (asP (af l v10) fun x1=>aa k (axO k (ac x1.body)) fun q=>ab (q) (I true) (ab (decide (((x1.name.size:Int):Int)>50)) (I true) (j (su .i64 (v10+1))))) (I false)
def ave (k:Nat) (I:Bool->OS S) (l:List Df):Nat->Int->OS S
 |0=>fun _=> .none
 |m+1=>fun v10=>axg k I l (ave k I l m) v10
def aAk (k:Nat) (I:Bool->OS S) (J0:Int->OS S) (l:List Df):OS S:=ab (decide (((l.length:Int):Int)>8)) (I true) (J0 0)
def axN (k:Nat) (l:List Df) (I:Bool->OS S):OS S:=aAk k I (fun v10=>ave k I l k v10) l
def axf (k:Nat) (I:List Df->OS S) (l:List Df) (q:(List Df)->Int->OS S) (j:List Df) (x:Int):OS S:=ab (decide ((x:Int)<(l.length:Int))) (asP (af l x) fun x1=>asP (aw 1099511627776 j.length [(ax9 x1)].length) fun x2=>q (j++[(ax9 x1)]) (su .i64 (x+1))) (I j)
def av0 (k:Nat) (I:List Df->OS S) (l:List Df):Nat->(List Df)->Int->OS S
 |0=>fun _ _=> .none
 |m+1=>fun j q=>axf k I l (av0 k I l m) j q
def aAj (k:Nat) (I:List Df->OS S) (J0:(List Df)->Int->OS S) (l:List Df):OS S:=J0 ([]:List Df) 0
def axM (k:Nat) (l:List Df) (I:List Df->OS S):OS S:=aAj k I (fun j q=>av0 k I l k j q) l
def awt (k:Nat) (a_n:Int) (I:Int->OS S):OS S:=ab (decide ((a_n:Int)<0)) (I a_n) (ab (decide ((a_n:Int)>100000)) (I a_n) (I (Int.tmod a_n 25)))
def oT (k:Nat) (I:Bool->OS S) (a b:LC) (j:Int->OS S) (i5:Int):OS S:=ab (decide ((i5:Int)<(a.length:Int))) (asP (af a i5) fun x1=>asP (af b i5) fun x2=>ab (!((x1.pos==x2.pos)&&((x1.neg==x2.neg)&&true))) (I false) (j (su .i64 (i5+1)))) (I true)
def ky (k:Nat) (I:Bool->OS S) (a b:LC):Nat->Int->OS S
 |0=>fun _=> .none
 |m+1=>fun i5=>oT k I a b (ky k I a b m) i5
def BV (k:Nat) (I:Bool->OS S) (J0:Int->OS S) (a b:LC):OS S:=ab (!((a.length:Int)==(b.length:Int))) (I false) (J0 0)
def jY (k:Nat) (a b:LC) (I:Bool->OS S):OS S:=BV k I (fun i5=>ky k I a b k i5) a b
abbrev eN (S:Type):=Tm->Tm->(Bool->OS S)->OS S
def xQ (hd:eN S) (k:Nat) (I:Bool->OS S) (a b:LT) (j:Int->OS S) (i5:Int):OS S:=ab (decide ((i5:Int)<(a.length:Int))) (asP (af a i5) fun x1=>asP (af b i5) fun x2=>hd (ac x1) (ac x2) fun q=>ab (!q) (I false) (j (su .i64 (i5+1)))) (I true)
def qH (hd:eN S) (k:Nat) (I:Bool->OS S) (a b:LT):Nat->Int->OS S
 |0=>fun _=> .none
 |m+1=>fun i5=>xQ hd k I a b (qH hd k I a b m) i5
def It (hd:eN S) (k:Nat) (I:Bool->OS S) (J0:Int->OS S) (a b:LT):OS S:=ab (!((a.length:Int)==(b.length:Int))) (I false) (J0 0)
def tX (hd:eN S) (k:Nat) (a b:LT) (I:Bool->OS S):OS S:=It hd k I (fun i5=>qH hd k I a b k i5) a b
def xO (hd:eN S) (k:Nat) (I:Bool->OS S) (a b:Tm) (j:Int->OS S) (i5:Int):OS S:=ab (decide ((i5:Int)<(a.sys.length:Int))) (asP (af a.sys i5) fun x3=>asP (af b.sys i5) fun x4=>aa k (jY k x3.face x4.face) fun q=>ab (!q) (I false) (asP (af a.sys i5) fun x6=>asP (af b.sys i5) fun x=>aa k (tX hd k x6.kids x.kids) fun z=>ab (!z) (I false) (j (su .i64 (i5+1))))) (I true)
def av1 (hd:eN S) (k:Nat) (I:Bool->OS S) (a b:Tm):Nat->Int->OS S
 |0=>fun _=> .none
 |m+1=>fun i5=>xO hd k I a b (av1 hd k I a b m) i5
def Ir (hd:eN S) (k:Nat) (I:Bool->OS S) (J0:Int->OS S) (a b:Tm):OS S:=ab (!(a.kind==b.kind)) (I false) (ab (!(a.n==b.n)) (I false) (ab (!(a.name==b.name)) (I false) (aa k (jY k a.r b.r) fun r1=>ab (!r1) (I false) (aa k (tX hd k a.kids b.kids) fun j=>ab (!j) (I false) (ab (!((a.sys.length:Int)==(b.sys.length:Int))) (I false) (J0 0))))))
def d8:Nat->Tm->Tm->(Bool->OS S)->OS S
 |0=>fun _ _ _=> .none
 |k+1=>fun a b I=>Ir (d8 k) k I (fun i5=>av1 (d8 k) k I a b k i5) a b
abbrev aDD (S:Type):=Tm->(Int->OS S)->OS S
def aBx (k:Nat) (kind:Int) (kids:LT) (I:Int×Int×BA×LT->OS S):OS S:=I (kind,0,alH,kids)
abbrev aAC (S:Type):=(List Df)->Tm->Int->(Tm×Int×Int->OS S)->OS S
def aJM (hd:aAC S) (k:Nat) (a_k:Tm) (c0:List Df) (c1:Int) (I:Tm×Int×Int->OS S):OS S:=hd c0 (ac a_k) c1 fun r1=>I ((ac r1.1),r1.2.2,r1.2.1)
def aGC (hd:aAC S) (k:Nat) (I:LT×Int×Int->OS S) (c0:List Df) (l:LT) (z:Int->Int->(LT)->OS S) (arm q:Int) (j:LT):OS S:=ab (decide ((q:Int)<(l.length:Int))) (asP (af l q) fun x1=>aa k (aJM hd k (ac x1) c0 arm) fun x=>ab (!(x.2.1==0)) (I (([]:LT),x.2.1,x.2.2)) (asP (aw 1099511627776 j.length [(ac x.1)].length) fun x3=>z x.2.2 (su .i64 (q+1)) (j++[(ac x.1)]))) (I (j,0,arm))
def aFc (hd:aAC S) (k:Nat) (I:LT×Int×Int->OS S) (c0:List Df) (l:LT):Nat->Int->Int->(LT)->OS S
 |0=>fun _ _ _=> .none
 |m+1=>fun arm q j=>aGC hd k I c0 l (aFc hd k I c0 l m) arm q j
def aJX (hd:aAC S) (k:Nat) (I:LT×Int×Int->OS S) (J0:Int->Int->(LT)->OS S) (l:LT) (c0:List Df) (c1:Int):OS S:=J0 c1 0 ([]:LT)
def aFQ (hd:aAC S) (k:Nat) (l:LT) (c0:List Df) (c1:Int) (I:LT×Int×Int->OS S):OS S:=aJX hd k I (fun arm q j=>aFc hd k I c0 l k arm q j) l c0 c1
def aJN (hd:aAC S) (k:Nat) (b:(Br Tm)) (c1:List Df) (c2:Int) (I:(Br Tm)×Int×Int->OS S):OS S:=aa k (aFQ hd k b.kids c1 c2) fun r1=>I ((Br.mk b.face r1.1),r1.2.1,r1.2.2)
def aGE (hd:aAC S) (k:Nat) (I:LB×Int×Int->OS S) (c1:List Df) (l:LB) (z:Int->Int->(LB)->OS S) (A q:Int) (j:LB):OS S:=ab (decide ((q:Int)<(l.length:Int))) (asP (af l q) fun x1=>aa k (aJN hd k x1 c1 A) fun x=>ab (!(x.2.1==0)) (I (([]:LB),x.2.1,x.2.2)) (asP (aw 1099511627776 j.length [x.1].length) fun x3=>z x.2.2 (su .i64 (q+1)) (j++[x.1]))) (I (j,0,A))
def aFH (hd:aAC S) (k:Nat) (I:LB×Int×Int->OS S) (c1:List Df) (l:LB):Nat->Int->Int->(LB)->OS S
 |0=>fun _ _ _=> .none
 |m+1=>fun q x j=>aGE hd k I c1 l (aFH hd k I c1 l m) q x j
def aJY (hd:aAC S) (k:Nat) (I:LB×Int×Int->OS S) (J0:Int->Int->(LB)->OS S) (l:LB) (c1:List Df) (c2:Int):OS S:=J0 c2 0 ([]:LB)
def aJy (hd:aAC S) (k:Nat) (l:LB) (c1:List Df) (c2:Int) (I:LB×Int×Int->OS S):OS S:=aJY hd k I (fun q x j=>aFH hd k I c1 l k q x j) l c1 c2
def aJI (hd:aAC S) (k:Nat) (I:Tm×Int×Int->OS S) (defs:List Df) (t:Tm) (fuel:Int):OS S:=aa k (auI k defs (ac t) fuel) fun r1=>ab (!(r1.2.2==0)) (I ((Tm.mk 0 0 alH [] [] []),0,r1.2.2)) (aa k (aFQ hd k r1.1.kids defs r1.2.1) fun j=>ab (!(j.2.1==0)) (I ((Tm.mk 0 0 alH [] [] []),0,j.2.1)) (aa k (aJy hd k r1.1.sys defs j.2.2) fun q=>ab (!(q.2.1==0)) (I ((Tm.mk 0 0 alH [] [] []),0,q.2.1)) (I ((Tm.mk r1.1.kind r1.1.n r1.1.name r1.1.r j.1 q.1),q.2.2,0))))
def atF:Nat->(List Df)->Tm->Int->(Tm×Int×Int->OS S)->OS S
 |0=>fun _ _ _ _=> .none
 |k+1=>fun defs t fuel I=>aJI (atF k) k I defs t fuel
def aJx (k:Nat) (I:Bool->OS S):OS S:=aa k (aBx k 1 ([]:LT)) fun r1=>aa k (aBx k 5 [(Tm.mk r1.1 r1.2.1 r1.2.2.1 [] r1.2.2.2 [])]) fun j=>aa k (aBx k 6 [(Tm.mk j.1 j.2.1 j.2.2.1 [] j.2.2.2 []),(Tm.mk r1.1 r1.2.1 r1.2.2.1 [] r1.2.2.2 [])]) fun q=>aa k (aBx k 5 [(Tm.mk q.1 q.2.1 q.2.2.1 [] q.2.2.2 [])]) fun x=>atF k ([]:List Df) (Tm.mk x.1 x.2.1 x.2.2.1 [] x.2.2.2 []) 5 fun A=>ab (A.2.2==0) (aa k (aBx k 5 [(Tm.mk r1.1 r1.2.1 r1.2.2.1 [] r1.2.2.2 [])]) fun z=>d8 k (ac A.1) (Tm.mk z.1 z.2.1 z.2.2.1 [] z.2.2.2 []) fun B=>ab (B) (I (A.2.1==4)) (I false)) (I false)
abbrev aDE (S:Type):=(List Df)->Tm->(Bool->OS S)->OS S
def aJC (k:Nat) (defs:List Df) (t:Tm) (fuel:Int) (I:Bool->OS S):OS S:=aa k (aJx k) fun r1=>ab (!r1) (I false) (aa k (axP k (ac t)) fun B=>ab (B) (I true) (aa k (axN k defs) fun E=>ab (E) (I true) (ab (decide ((fuel:Int)<0)) (I true) (ab (decide ((fuel:Int)>100000)) (I true) (aa k (axM k defs) fun j=>aa k (awt k fuel) fun A=>aa k (a_ k j (ac t)) fun q=>ab (!(q.2.2==0)) (I true) (ab (!q.2.1) (I true) (atF k j (ac t) (su .i64 (A+1)) fun x=>atF k j (ac q.1) A fun z=>ab (x.2.2==z.2.2) (ab (x.2.1==z.2.1) (d8 k (ac x.1) (ac z.1) fun F=>I F) (I false)) (I false))))))))
end
end Go.Proofs.YtgmmefmmnakbpaaGreatDoor
namespace Go.Proofs.YtgmmefmmnakbpaaGreatDoor
open Go PI
abbrev M24:Nat:=16777215
theorem N4 {n:Nat} (h:n<24):2^n<4294967296:=Nat.lt_of_lt_of_le (Nat.pow_lt_pow_right (by decide) h) (by decide)
theorem Dt (n:Nat):(2:Int)^n=((2^n:Nat):Int):=by simp
theorem Es (m n:Nat):Int.fdiv (m:Int) ((2:Int)^n)=((m/2^n:Nat):Int):=by
 grind
variable {S:Type} {k:Nat}
theorem BM (hk:Fu k) (i:Int) (I:Bool->OS S):nd k i I=I (decide (0<=i/\i<24)):=by
 grind [nd,aY]
theorem akm (hk:Fu k) {m:Nat} (q:m<4294967296) (I:Bool->OS S):pm k (m:Int) I=I (decide (m<16777216)):=by
 simp only [pm]
 rw [show (16777215:Int)=((16777215:Nat):Int) from rfl,C_ q (by decide)]
 congr 1
 rw [Bool.eq_iff_iff]
 simp only [beq_iff_eq,decide_eq_true_eq]
 have key:dL m 16777215=0↔m<16777216:=by
  constructor
  ·intro h
   apply Nat.lt_pow_two_of_testBit (n:=24)
   intro i j
   have h2:=mm m 16777215 i
   rw [h,Nat.zero_testBit] at h2
   have:(16777215:Nat).testBit i=false:=Nat.testBit_lt_two_pow (Nat.lt_of_lt_of_le (by decide:16777215<2^24) (Nat.pow_le_pow_right (by decide) j))
   grind
  ·intro h
   apply Nat.eq_of_testBit_eq
   intro i
   rw [mm,Nat.zero_testBit]
   by_cases j:i<24
   ·have:(16777215:Nat).testBit i=true:=by
     rw [show (16777215:Nat)=2^24-1 from rfl,Nat.testBit_two_pow_sub_one];grind
    grind
   ·have h2:(2:Nat)^24<=2^i:=Nat.pow_le_pow_right (by decide) (by omega)
    grind [Nat.testBit_lt_two_pow]
 omega
theorem akk (hk:Fu k) {m:Nat} (j:m<4294967296) (i:Int) (I:Bool->OS S):amz k (m:Int) i I=I (decide (0<=i/\i<24)&&m.testBit i.toNat):=by
 simp only [amz,BM hk,ag hk]
 by_cases h:0<=i/\i<24
 ·obtain ⟨n,rfl⟩: ∃n:Nat,i=n:=⟨i.toNat,by omega⟩
  have hn:n<24:=by omega
  rw [decide_eq_true h,ae,Bool.true_and,iR n (by omega),fN _ (by omega)]
  congr 1
  rw [asG,Nat.min_eq_left (by omega),Es,show (1:Int)=((1:Nat):Int) from rfl,lj (Nat.lt_of_le_of_lt (Nat.div_le_self _ _) j) (by decide)]
  grind
 grind [n3]
theorem akn (hk:Fu k) {m:Nat} (j:m<4294967296) (i:Int) (I:Int->OS S):i_ k (m:Int) i I=I (if 0<=i/\i<24 then (((m&&&M24)|||2^i.toNat:Nat):Int) else ((m&&&M24:Nat):Int)):=by
 simp only [i_,BM hk,ag hk]
 have hand:bj .and .u32 (m:Int) 16777215=((m&&&M24:Nat):Int):=lj j (by decide:(16777215:Nat)<4294967296)
 have q:m&&&M24<4294967296:=aye (n:=32) j
 rw [hand]
 by_cases h:0<=i/\i<24
 ·obtain ⟨n,rfl⟩: ∃n:Nat,i=n:=⟨i.toNat,by omega⟩
  grind [iR,n3,fN,asG,ld,N4,wK]
 ·rw [decide_eq_false h,if_neg h];rfl
theorem ako (hk:Fu k) {m:Nat} (j:m<4294967296) (i:Int) (I:Int->OS S):jX k (m:Int) i I=I (if 0<=i/\i<24 then ((dL (m&&&M24) (2^i.toNat):Nat):Int) else ((m&&&M24:Nat):Int)):=by
 simp only [jX,BM hk,ag hk]
 have hand:bj .and .u32 (m:Int) 16777215=((m&&&M24:Nat):Int):=lj j (by decide:(16777215:Nat)<4294967296)
 have q:m&&&M24<4294967296:=aye (n:=32) j
 rw [hand]
 by_cases h:0<=i/\i<24
 ·grind [iR,n3,fN,asG,ld,N4,C_]
 ·rw [decide_eq_false h,if_neg h];rfl
theorem R5 (hk:Fu k) (n:Nat) (hn:n<18446744073709551616) (I:Int->OS S):pn k (n:Int) I=I ((2^min n 24-1:Nat):Int):=by
 simp only [pn]
 have e:(if (24:Int)<(n:Int) then (24:Int) else (n:Int))=((min n 24:Nat):Int):=by
  omega
 rw [e,iR _ (by omega),fN _ (by omega),asG]
 congr 1
 generalize x:min n 24=q
 have j:q<=24:=by omega
 rw [Nat.min_eq_left (by omega),Int.one_mul,Dt]
 have h1:2^q<=2^24:=Nat.pow_le_pow_right (by decide) j
 grind [iR,ld]
def gO (m n:Nat):Nat:=(m&&&M24)&&&(2^min n 24-1)
def dl (m n:Nat):Nat:=dL (m&&&M24) (2^min n 24-1)
def amc (m n b:Nat):Nat×Nat:=
 if dl m n=0 then (gO m n,0) else if 24<=b then (0,10) else if dl m n*2^b>16777215 then (0,10) else (gO m n|||(dl m n*2^b),0)
theorem akl (hk:Fu k) {m:Nat} (F:m<4294967296) (n b:Nat) (hn:n<9223372036854775808) (hb:b<9223372036854775808) (I:Int×Int->OS S):
  lx k (m:Int) (n:Int) (b:Int) I=I (((amc m n b).1:Int),((amc m n b).2:Int)):=by
 have hand:bj .and .u32 (m:Int) 16777215=((m&&&M24:Nat):Int):=lj F (by decide:(16777215:Nat)<4294967296)
 have z:m&&&M24<16777216:=Nat.lt_of_le_of_lt Nat.and_le_right (by decide)
 have q:2^min n 24-1<4294967296:=by
  have:2^min n 24<=2^24:=Nat.pow_le_pow_right (by decide) (by omega)
  omega
 have A:dl m n<16777216:=vq (n:=24) z
 have x:bj .and .u32 ((m&&&M24:Nat):Int) ((2^min n 24-1:Nat):Int)=((gO m n:Nat):Int):=lj (by omega) q
 have j:bj .andNot .u32 ((m&&&M24:Nat):Int) ((2^min n 24-1:Nat):Int)=((dl m n:Nat):Int):=C_ (by omega) q
 simp only [lx]
 rw [aY,aY,if_neg (by omega),if_neg (by omega)]
 simp only [R5 hk n (by omega),ag hk,hand,x,j]
 rw [iR _ (by omega)]
 unfold amc
 by_cases J:dl m n=0
 ·grind [ae]
 ·rw [if_neg J]
  have B:(((dl m n:Nat):Int)==0)=false:=by
   grind
  simp only [B,n3,aY]
  by_cases E:24<=b
  ·grind
  ·rw [if_neg (by omega),if_neg E,iR b (by omega),fN _ (by omega),asG,Nat.min_eq_left (by omega),Dt]
   have hp:2^b<=2^23:=Nat.pow_le_pow_right (by decide) (by omega)
   have L:(2:Nat)^23=8388608:=by decide
   have hmul:dl m n*2^b<18446744073709551616:=by
    have:=Nat.mul_le_mul (Nat.le_of_lt A) hp
    omega
   have M:((dl m n:Nat):Int)*((2^b:Nat):Int)=((dl m n*2^b:Nat):Int):=by simp
   rw [M,iR _ hmul]
   by_cases O:dl m n*2^b>16777215
   ·grind
   ·rw [if_neg (by omega),if_neg O]
    rw [ld _ (by omega),fN _ (by omega),wK (by grind [gO,Nat.and_le_left]) (by omega)]
    rfl
set_option maxRecDepth 20000
variable {S:Type} {k:Nat}
def alK (l:List Nat):Nat:=(l.map (2^ ·)).sum
theorem Zr {x a:Nat} (h:x.testBit a=false):x+2^a=x|||2^a:=by
 have h1:x=2^(a+1)*(x/2^(a+1))+x%2^(a+1):=(Nat.div_add_mod _ _).symm
 have j:x%2^(a+1)<2^a:=by
  have hb:(x%2^(a+1)).testBit a=false:=by grind
  grind [Nat.lt_pow_two_of_testBit,Nat.testBit_lt_two_pow]
 generalize x/2^(a+1)=q at h1
 generalize x%2^(a+1)=r at h1 j
 have hp:(2:Nat)^(a+1)=2^a*2:=Nat.pow_succ 2 a
 have z:2^a+r=2^a|||r:=by
  have:=Nat.two_pow_add_eq_or_of_lt j 1
  grind
 have A:x=2^(a+1)*q|||r:=by grind [Nat.two_pow_add_eq_or_of_lt]
 grind [Nat.two_pow_add_eq_or_of_lt]
theorem oG: ∀ (l:List Nat),l.Nodup-> ∀j,(alK l).testBit j=decide (j∈l):=by
 intro l
 induction l with
 |nil=>grind [alK]
 |cons a l x=>
  intro hn j
  have q:=List.nodup_cons.1 hn
  have ha:(alK l).testBit a=false:=by grind
  have e:alK (a::l)=alK l|||2^a:=by
   grind [Zr,alK]
  grind
def bW (m:Nat):List Nat:=(arU 24).filter m.testBit
theorem oY (m:Nat):(bW m).Nodup:=List.nodup_range.filter _
theorem mem_bitsN {m j:Nat}:j∈bW m↔j<24/\m.testBit j=true:=by simp [bW]
theorem gu (m:Nat):(bW m).length<=24:=by
 grind [bW]
theorem g8 (j:Nat):M24.testBit j=decide (j<24):=by
 rw [show M24=2^24-1 from rfl,Nat.testBit_two_pow_sub_one]
def ints (l:List Nat):List Int:=l.map Int.ofNat
theorem amb (l:List Nat):(ints l).length=l.length:=by simp [ints]
theorem uB {α:Type} (p r:List α) (x:α):af (p++x::r) (p.length:Int)=some x:=by simp [af]
theorem oZ {m:Nat} (h:m<16777216) {j:Nat} (hj:m.testBit j=true):j<24:=by
 apply Classical.byContradiction
 intro hn
 have:m<2^j:=Nat.lt_of_lt_of_le h (Nat.pow_le_pow_right (n:=2) (i:=24) (j:=j) (by decide) (by omega))
 grind [Nat.testBit_lt_two_pow]
theorem LN (m:Nat):m<16777216↔ ∀j,m.testBit j=true->j<24:=by
 constructor
 ·intro h j hj;exact oZ h hj
 ·intro h
  apply Nat.lt_pow_two_of_testBit (n:=24)
  grind
def up1 (n b x:Nat):Nat:=if x<n then x else x+b
theorem Dl (m n j:Nat):(gO m n).testBit j=(m.testBit j&&decide (j<n/\j<24)):=by
 grind [gO,g8]
theorem Js (m n j:Nat):(dl m n).testBit j=(m.testBit j&&decide (n<=j/\j<24)):=by
 grind [dl,mm,g8]
theorem Fg (m n b:Nat):amc m n b=if (∃x∈bW m,n<=x/\24<=x+b) then (0,10) else (alK ((bW m).map (up1 n b)),0):=by
 have A:((bW m).map (up1 n b)).Nodup:=by
  grind [up1,oY]
 have E: ∀j,(alK ((bW m).map (up1 n b))).testBit j=((gO m n).testBit j||(decide (b<=j)&&(dl m n).testBit (j-b))):=by
  intro j
  rw [oG _ A,Dl,Js,Bool.eq_iff_iff]
  simp only [decide_eq_true_eq,arR,mem_bitsN,Bool.or_eq_true,anZ]
  grind [up1]
 have q: ∀j,(dl m n).testBit j=true↔(j∈bW m/\n<=j):=by
  grind [Js,mem_bitsN]
 unfold amc
 by_cases B:dl m n=0
 ·rw [if_pos B,if_neg]
  ·congr 1
   apply Nat.eq_of_testBit_eq
   grind
  grind
 ·rw [if_neg B]
  have hex: ∃j,(dl m n).testBit j=true:=by
   apply Classical.byContradiction
   intro I
   apply B
   apply Nat.eq_of_testBit_eq
   grind
  have hmul: ∀j,(dl m n*2^b).testBit j=(decide (b<=j)&&(dl m n).testBit (j-b)):=by
   grind
  by_cases z:24<=b
  ·rw [if_pos z]
   obtain ⟨j,hj⟩:=hex
   have:=(q j).1 hj
   rw [if_pos ⟨j,this.1,this.2,by omega⟩]
  ·rw [if_neg z]
   have J:=LN (dl m n*2^b)
   by_cases F:dl m n*2^b>16777215
   ·rw [if_pos F,if_pos]
    grind
   ·rw [if_neg F,if_neg]
    ·congr 1
     apply Nat.eq_of_testBit_eq
     grind
    ·rintro ⟨x,h1,h2,L⟩
     have M:(dl m n*2^b).testBit (x+b)=true:=by
      simp_all
     grind
def j7 (m:Nat) (i:Int):Nat:=if 0<=i/\i<24 then gO m i.toNat|||((m&&&M24)/2^(i.toNat+1)*2^i.toNat) else m&&&M24
theorem akj (hk:Fu k) {m:Nat} (q:m<4294967296) (i:Int) (I:Int->OS S):pk k (m:Int) i I=I ((j7 m i:Nat):Int):=by
 simp only [pk,BM hk,ag hk]
 have hand:bj .and .u32 (m:Int) 16777215=((m&&&M24:Nat):Int):=lj q (by decide:(16777215:Nat)<4294967296)
 have x:m&&&M24<16777216:=Nat.lt_of_le_of_lt Nat.and_le_right (by decide)
 rw [hand]
 unfold j7
 by_cases h:0<=i/\i<24
 ·obtain ⟨n,rfl⟩: ∃n:Nat,i=n:=⟨i.toNat,by omega⟩
  have hn:n<24:=by omega
  rw [decide_eq_true h,if_pos h,aq6,n3,R5 hk n (by omega)]
  have z:(n:Int)+1=((n+1:Nat):Int):=by simp
  rw [alX (by omega) (by omega),z,iR _ (by omega),iR _ (by omega),fN _ (by omega),fN _ (by omega)]
  rw [asG,asG,Nat.min_eq_left (show n+1<=32 by omega),Nat.min_eq_left (show n<=32 by omega),Es,Dt]
  have hb:2^min n 24-1<4294967296:=by
   have:2^min n 24<=2^24:=Nat.pow_le_pow_right (by decide) (by omega)
   omega
  have B:(m&&&M24)/2^(n+1)*2^n<=m&&&M24:=by
   have h1:(m&&&M24)/2^(n+1)*2^(n+1)<=m&&&M24:=Nat.div_mul_le_self _ _
   have h2:2^n<=2^(n+1):=Nat.pow_le_pow_right (by decide) (by omega)
   exact aru (Nat.mul_le_mul_left _ h2) h1
  have A:((((m&&&M24)/2^(n+1):Nat):Int))*((2^n:Nat):Int)=(((m&&&M24)/2^(n+1)*2^n:Nat):Int):=by simp
  rw [A,ld _ (by omega),lj (by omega) hb]
  have j:gO m n<4294967296:=by grind [gO,Nat.and_le_left]
  show I (bj .or .u32 ((gO m n:Nat):Int) _)=_
  rw [wK j (by omega)]
 ·rw [decide_eq_false h,if_neg h];rfl
def aG (n:Int):Prop:= -9223372036854775808<=n/\n<9223372036854775808
def oC (s:Int):Bool:=decide (s<16777216)
def bP (s i:Int):Bool:=decide (0<=i/\i<24)&&s.toNat.testBit i.toNat
def e_ (s i:Int):Int:=if 0<=i/\i<24 then (((s.toNat&&&M24)|||2^i.toNat:Nat):Int) else ((s.toNat&&&M24:Nat):Int)
def alW (s i:Int):Int:=if 0<=i/\i<24 then ((dL (s.toNat&&&M24) (2^i.toNat):Nat):Int) else ((s.toNat&&&M24:Nat):Int)
def amp (s:Int):List Int:=ints (bW s.toNat)
def alS (s i b:Int):Int×Int:=if i<0\/b<0 then (0,2) else (((amc s.toNat i.toNat b.toNat).1:Int),((amc s.toNat i.toNat b.toNat).2:Int))
def pI (s i:Int):Int:=((j7 s.toNat i:Nat):Int)
theorem QE (m:Nat):oC (m:Int)=decide (m<16777216):=by
 grind [oC]
theorem Q9 (hk:Fu k) {s:Int} (h:U32 s) (I:Bool->OS S):pm k s I=I (oC s):=by
 obtain ⟨m,j,rfl⟩:=h.nat
 rw [akm hk j,QE]
theorem rF (hk:Fu k) {s:Int} (h:U32 s) (i:Int) (I:Bool->OS S):amz k s i I=I (bP s i):=by
 obtain ⟨m,j,rfl⟩:=h.nat
 rw [akk hk j];rfl
theorem vV (hk:Fu k) {s:Int} (h:U32 s) (i:Int) (I:Int->OS S):i_ k s i I=I (e_ s i):=by
 obtain ⟨m,j,rfl⟩:=h.nat
 rw [akn hk j];rfl
theorem vW (hk:Fu k) {s:Int} (h:U32 s) (i:Int) (I:Int->OS S):jX k s i I=I (alW s i):=by
 obtain ⟨m,j,rfl⟩:=h.nat
 rw [ako hk j];rfl
theorem Ny {s:Int} (h:U32 s):ra s=amp s:=by
 obtain ⟨m,j,rfl⟩:=h.nat
 have: ∀i:Nat,(BitVec.ofInt 32 (m:Int)).getLsbD i=m.testBit i:=by
  grind
 simp_all [ra,amp,ints,bW]
theorem Q6 (hk:Fu k) {s i b:Int} (h:U32 s) (j:aG i) (hb:aG b) (I:Int×Int->OS S):lx k s i b I=I (alS s i b):=by
 obtain ⟨m,q,rfl⟩:=h.nat
 by_cases h1:i<0
 ·grind [lx,aY,alS]
 by_cases h2:b<0
 ·grind [lx,aY,alS]
 obtain ⟨n,rfl⟩: ∃n:Nat,i=n:=⟨i.toNat,by omega⟩
 obtain ⟨c,rfl⟩: ∃n:Nat,b=n:=⟨b.toNat,by omega⟩
 have:=j.2;have:=hb.2
 grind [akl,alS]
theorem Q4 (hk:Fu k) {s:Int} (h:U32 s) (i:Int) (I:Int->OS S):pk k s i I=I (pI s i):=by
 obtain ⟨m,j,rfl⟩:=h.nat
 rw [akj hk j];rfl
theorem Dy (hk:Fu k) (I:Int->OS S):lw k 0 I=I 0:=by
 simp only [lw,ag hk];rfl
theorem Dz (hk:Fu k) (I:Int->OS S): ∀n:Nat,n<24->lw k ((2^n:Nat):Int) I=I 1:=by
 simp only [lw,ag hk]
 intro n hn
 match n,hn with
 |0,_|1,_|2,_|3,_|4,_|5,_|6,_|7,_|8,_|9,_|10,_|11,_|12,_|13,_|14,_|15,_|16,_|17,_|18,_|19,_|20,_|21,_|22,_|23,_=>rfl
 |n+24,h=>omega
theorem B7 (i:Int):e_ 0 i=if 0<=i/\i<24 then ((2^i.toNat:Nat):Int) else 0:=by
 grind [e_]
theorem ai7 (hk:Fu k) (i:Int) (I:Bool->OS S):yE k i I=I (decide (0<=i/\i<24)):=by
 simp only [yE,ag hk,vV hk (s:=0) ⟨by omega,by omega⟩,B7]
 grind [Dz,Dy]
theorem ai8 (hk:Fu k) (i:Int) (I:Bool->OS S):yK k i I=I (decide (0<=i/\i<24)):=by
 simp only [yK,ag hk,vV hk (s:=0) ⟨by omega,by omega⟩,B7]
 grind [Dz,Dy]
theorem U32.of {n:Nat} (h:n<4294967296):U32 (n:Int):=⟨by omega,by omega⟩
theorem ao2 {s i:Int}:0<=e_ s i/\e_ s i<16777216:=by
 have h1:s.toNat&&&M24<16777216:=Nat.lt_of_le_of_lt Nat.and_le_right (by decide)
 unfold e_
 split
 ·next h=>
  have hp:2^i.toNat<2^24:=Nat.pow_lt_pow_right (by decide) (by omega)
  have:=Nat.or_lt_two_pow (n:=24) h1 hp
  omega
 ·omega
theorem Jd {s i:Int}:0<=alW s i/\alW s i<16777216:=by
 have h1:s.toNat&&&M24<16777216:=Nat.lt_of_le_of_lt Nat.and_le_right (by decide)
 unfold alW
 split
 ·have:=vq (n:=24) (b:=2^i.toNat) h1
  omega
 ·omega
theorem aam (m:Nat) (i:Int):j7 m i<16777216:=by
 have h1:m&&&M24<16777216:=Nat.lt_of_le_of_lt Nat.and_le_right (by decide)
 unfold j7
 split
 ·rw [LN]
  grind [Dl,g8]
 omega
deriving instance DecidableEq for Cl
theorem Cl.ext' {a b:Cl} (h1:a.pos=b.pos) (h2:a.neg=b.neg):a=b:=by cases a<;>simp_all
theorem lm (a b:Cl):((a.pos==b.pos)&&((a.neg==b.neg)&&true))=decide (a=b):=by
 grind [Cl.ext']
def aX (c:Cl):Prop:=U32 c.pos/\U32 c.neg
def aq (f:LC):Prop:= ∀c∈f,aX c
def fE (c:Cl):Bool:=oC c.pos&&oC c.neg
def RC (c:Cl):Prop:=(0<=c.pos/\c.pos<16777216)/\(0<=c.neg/\c.neg<16777216)
theorem RC.ok {c:Cl} (h:RC c):aX c:=⟨⟨h.1.1,by have:=h.1.2;omega⟩,⟨h.2.1,by have:=h.2.2;omega⟩⟩
theorem Bp {c:Cl} (h:aX c):fE c=true↔RC c:=by
 unfold fE oC RC
 simp only [anZ,decide_eq_true_eq]
 have h1:=h.1.1;have h2:=h.2.1
 omega
def ep (a b:Int):Int:=((a.toNat|||b.toNat:Nat):Int)
theorem awS {a b:Int} (ha:U32 a) (hb:U32 b):bj .or .u32 a b=ep a b:=by
 obtain ⟨m,j,rfl⟩:=ha.nat;obtain ⟨n,hn,rfl⟩:=hb.nat
 rw [wK j hn];rfl
def d9 (a b:Cl):Cl:=⟨ep a.pos b.pos,ep a.neg b.neg⟩
def dR (a b:Cl):Bool:=decide (d9 a b=a)
def bS (c:Cl):Bool:= !decide (c.pos.toNat&&&c.neg.toNat=0)
theorem FX {a b:Int} (ha:U32 a) (hb:U32 b):U32 (ep a b):=by
 obtain ⟨m,j,rfl⟩:=ha.nat;obtain ⟨n,hn,rfl⟩:=hb.nat
 exact U32.of (Nat.or_lt_two_pow (n:=32) j hn)
theorem Aw {a b:Cl} (ha:aX a) (hb:aX b):aX (d9 a b):=⟨FX ha.1 hb.1,FX ha.2 hb.2⟩
theorem Rg (hk:Fu k) {c:Cl} (h:aX c) (I:Bool->OS S):tC k c I=I (fE c):=by
 simp only [tC,ag hk,Q9 hk h.1,Q9 hk h.2,fE,cH]
 grind
theorem G_ (hk:Fu k) {a b:Cl} (ha:aX a) (hb:aX b) (I:Cl->OS S):pb k a b I=I (d9 a b):=by
 simp only [pb,awS ha.1 hb.1,awS ha.2 hb.2];rfl
theorem ai3 (hk:Fu k) {a b:Cl} (ha:aX a) (hb:aX b) (I:Bool->OS S):yA k a b I=I (dR a b):=by
 simp only [yA,ag hk,G_ hk ha hb,lm];rfl
theorem Rf (hk:Fu k) {c:Cl} (h:aX c) (I:Bool->OS S):tB k c I=I (bS c):=by
 obtain ⟨p,n⟩:=c
 obtain ⟨m,j,rfl⟩:=h.1.nat;obtain ⟨n,hn,rfl⟩:=h.2.nat
 simp only [tB,lj j hn,bS,asG]
 congr 2
 grind
open Classical in
theorem aln (s:Int) (x:Nat) (q:x<24) (j:Nat):(e_ s (x:Int)).toNat.testBit j=((s.toNat.testBit j&&decide (j<24))||decide (j=x)):=by
 unfold e_
 rw [if_pos (by omega),asG,asG,Nat.testBit_or,Nat.testBit_and,g8,Nat.testBit_two_pow,Bool.eq_iff_iff]
 grind
def dw (c:Cl) (i b:Int):Cl×Int:=
 if fE c then
  if (alS c.pos i b).2=0 then if (alS c.neg i b).2=0 then (⟨(alS c.pos i b).1,(alS c.neg i b).1⟩,0) else (⟨0,0⟩,(alS c.neg i b).2)
  else (⟨0,0⟩,(alS c.pos i b).2)
 else (⟨0,0⟩,2)
theorem ai4 (hk:Fu k) {c:Cl} {i b:Int} (h:aX c) (j:aG i) (hb:aG b) (I:Cl×Int->OS S):yD k c i b I=I (dw c i b):=by
 simp only [yD,ag hk,Rg hk h,Q6 hk h.1 j hb,Q6 hk h.2 j hb,cH,dw,Bool.not_eq_true',beq_eq_false_iff_ne]
 grind
def gP (a b:Cl):Prop:=a.pos<b.pos\/(a.pos=b.pos/\a.neg<b.neg)
def qZ (a b:Cl):Bool:=decide (a.pos<b.pos)||(a.pos==b.pos&&decide (a.neg<b.neg))
theorem agh {a b:Cl}:qZ a b=true↔gP a b:=by unfold qZ gP;simp
theorem LP {a b c:Cl} (h:gP a b) (h':gP b c):gP a c:=by grind [gP]
theorem LO {a:Cl} (h:gP a a):False:=by grind [gP]
theorem agC (a b:Cl):gP a b\/a=b\/gP b a:=by
 grind [Cl.ext',gP]
abbrev lg (l:LC):Prop:=l.Pairwise gP
theorem BL: ∀ {a b:LC},lg a->lg b->(∀c,c∈a↔c∈b)->a=b:=by
 intro a
 induction a with
 |nil=>
  intro b _ _ h
  cases b with
  |nil=>rfl
  |cons y b=>exact absurd ((h y).2 (by simp)) (by simp)
 |cons x a A=>
  intro b ha hb h
  cases b with
  |nil=>grind
  |cons y b=>
   have j:=List.pairwise_cons.1 ha;have q:=List.pairwise_cons.1 hb
   have z:x=y:=by
    rcases arH.1 ((h x).1 (by simp)) with h1|h1
    ·exact h1
    ·rcases arH.1 ((h y).2 (by simp)) with h2|h2<;>grind [LP,LO]
   grind [LO]
def fq (x:Cl):LC->LC
 |[]=>[x]
 |y::r=>if qZ y x then y::fq x r else if y=x then y::r else x::y::r
theorem NE {x c:Cl}: ∀ {l:LC},c∈fq x l↔c=x\/c∈l:=by
 intro l
 induction l<;>grind [fq]
theorem adp {x:Cl}: ∀ {l:LC},lg l->lg (fq x l):=by
 intro l
 induction l<;>grind [fq,List.pairwise_cons,NE,agh,agC,LP]
theorem K_ {x:Cl}: ∀ {l:LC},(fq x l).length<=l.length+1:=by
 intro l
 induction l<;>grind [fq]
def ce (l:LC) (c:Cl):Bool:=l.all fun d=>decide (d=c)|| !dR c d
def avb (o l:LC):LC:=l.foldl (fun o c=>fq c o) o
def asQ (l:LC):LC:=avb [] (l.filter (ce l))
theorem agJ {c:Cl}: ∀ {l o:LC},c∈avb o l↔c∈l\/c∈o:=by
 intro l
 induction l with
 |nil=>grind [avb]
 |cons x l j=>
  intro o
  show c∈avb (fq x o) l↔_
  grind [NE]
theorem ado: ∀ {l o:LC},lg o->lg (avb o l):=by
 intro l
 induction l with
 |nil=>intro o h;exact h
 |cons x l j=>intro o h;exact j (adp h)
theorem adn: ∀ {l o:LC},(avb o l).length<=o.length+l.length:=by
 intro l
 induction l<;>grind [avb,K_]
theorem re (l:LC):lg (asQ l):=ado List.Pairwise.nil
theorem mem_mins {l:LC} {c:Cl}:c∈asQ l↔c∈l/\ce l c=true:=by
 grind [asQ,agJ]
theorem agM (l:LC):(asQ l).length<=l.length:=by
 grind [adn,asQ]
theorem NK {l l':LC} (h: ∀c,c∈l↔c∈l') (c:Cl):ce l c=ce l' c:=by
 grind [ce]
def bp (l:LC):LC×Int:=if l.all fE then if (asQ l).length>64 then ([],3) else (asQ l,0) else ([],2)
theorem yq {S:Type} {p:Prop} [Decidable p] (h:p) (f:Unit->OS S):asP (bR p) f=f ():=fN p h f
theorem aiS (hk:Fu k) {d c:Cl} (hd:aX d) (hc:aX c) (I:Bool->OS S):yC k d c I=I (!(decide (d=c)|| !dR c d)):=by
 grind [yC,lm,cH,ag,ai3,dR]
theorem aeZ (hk:Fu k) (I:Int->OS S) {c:Cl} (hc:aX c) {l:LC} (hl:aq l) (hlen:l.length<2147483648):
  ∀ (r p:LC) (m:Nat),l=p++r->r.length<m-> ∃v:Int,decide (v>=0)= !ce r c/\qO k I c l m (p.length:Int)=I v:=by
 intro r
 induction r with
 |nil=>
  intro p m h q
  obtain ⟨m,rfl,j⟩:=amr q
  exact ⟨-1,rfl,by grind [qO,yc,n3]⟩
 |cons x r z=>
  intro p m h q
  obtain ⟨m,rfl,j⟩:=amr q
  obtain ⟨B,E,F,A⟩:=apy h (by omega)
  have J:aX x:=hl x (by grind)
  obtain ⟨v,hv,L⟩:=z (p++[x]) m A j
  have M:ce (x::r) c=((decide (x=c)|| !dR c x)&&ce r c):=by rfl
  grind [qO,yc,ae,ag,aiS,decide,dR,n3]
theorem ajq (hk:Fu k) {c:Cl} (hc:aX c) {l:LC} (hl:aq l) (hlen:l.length<2147483648) (I:Bool->OS S):yB k c l I=I (!ce l c):=by
 obtain ⟨v,hv,j⟩:=aeZ hk (fun r1:Int=>I (decide (r1>=0))) hc hl hlen l [] k rfl (by omega)
 grind [yB,DT,DV,IM,ag]
theorem ae2 (hk:Fu k) (I:LC×Int->OS S) {l:LC} (hl:aq l) (hlen:l.length<2147483648):
  ∀ (r p:LC) (m:Nat) (q:LC),l=p++r->r.length<m->q.length<=p.length->
  nz k I l m (p.length:Int) q=I (if (q++r.filter (ce l)).length>64 then ([],3) else (sortCl (q++r.filter (ce l)),0)):=by
 intro r
 induction r with
 |nil=>
  grind [amr,nz,wM,aY]
 |cons x r z=>
  intro p m q h A O
  obtain ⟨m,rfl,j⟩:=amr A
  obtain ⟨B,E,F,J⟩:=apy h (by omega)
  have L:aX x:=hl x (by grind)
  have M:p.length<l.length:=by grind
  simp only [nz,wM,B,ae,E,sf,ag hk,ajq hk L hl hlen,Bool.not_not]
  rw [F]
  cases hn:ce l x with
  |true=>
   rw [ae,J5 (by grind),List.filter_cons_of_pos hn,z (p++[x]) m (q++[x]) J j (by grind)]
   simp
  |false=>
   rw [n3,List.filter_cons_of_neg (by grind)]
   grind
theorem zT (a b:Cl):eS VV ET.C a b=decide (a=b):=by
 have e:eS VV ET.C a b=((a.pos==b.pos)&&((a.neg==b.neg)&&true)):=by
  rfl
 rw [e,lm]
theorem agK (l:List (Cl×Bool)) (x y:Cl):dW VV ET.C (fz VV ET.C l x true) y=if x=y then some true else dW VV ET.C l y:=by
 induction l with
 |nil=>
  show (bif eS VV ET.C x y then some true else .none)=_
  simp_all [zT,dW]
 |cons a r j=>
  obtain ⟨z,b⟩:=a
  show dW VV ET.C (bif eS VV ET.C z x then (z,true)::r else (z,b)::fz VV ET.C r x true) y=_
  rw [zT]
  by_cases h:z=x
  ·subst h
   rw [decide_eq_true rfl,cond_true]
   show (bif eS VV ET.C z y then some true else dW VV ET.C r y)=if z=y then some true else (bif eS VV ET.C z y then some b else dW VV ET.C r y)
   grind [zT]
  ·rw [decide_eq_false h,cond_false]
   show (bif eS VV ET.C z y then some b else dW VV ET.C (fz VV ET.C r x true) y)=if x=y then some true else (bif eS VV ET.C z y then some b else dW VV ET.C r y)
   grind [zT]
theorem akd {l o:LC} (hn:o.Nodup) (h: ∀c,c∈o↔c∈l):sortCl (o.filter (ce o))=asQ l/\(o.filter (ce o)).length=(asQ l).length:=by
 have hp:(sortCl (o.filter (ce o))).Perm (o.filter (ce o)):=List.mergeSort_perm _ _
 have hs:(sortCl (o.filter (ce o))).Pairwise (fun a b=>lq a b=true):=
  List.pairwise_mergeSort (le:=lq) (fun a b c h1 h2=>by
   grind [lq]) (fun a b=>by
   grind [lq]) _
 have q:(sortCl (o.filter (ce o))).Nodup:=hp.nodup_iff.2 (hn.filter _)
 have j:lg (sortCl (o.filter (ce o))):=by
  refine (hs.and q).imp fun {a b} h=> ?_
  have h1:=h.1
  unfold lq at h1
  simp only [Bool.or_eq_true,anZ,decide_eq_true_eq,beq_iff_eq] at h1
  rcases h1 with h1|h1
  ·exact .inl h1
  ·refine .inr ⟨h1.1, ?_⟩
   grind [Cl.ext']
 have he:sortCl (o.filter (ce o))=asQ l:=BL j (re l) fun c=>by
  grind [mem_mins,NK]
 exact ⟨he,by rw [<-he,hp.length_eq]⟩
theorem af3 (hk:Fu k) (I:LC×Int->OS S) {l:LC} (hl:aq l) (hlen:l.length<2147483648):
  ∀ (r p:LC) (m:Nat) (q:List (Cl×Bool)) (o:LC),l=p++r->r.length<m->o.length<=p.length->o.Nodup->(∀c:Cl,(dW VV ET.C q c).getD false=decide (c∈o))->(∀c,c∈o↔c∈p)->
  pZ k I l m q o (p.length:Int)=I (if r.all fE then if (asQ l).length>64 then ([],3) else (asQ l,0) else ([],2)):=by
 intro r
 induction r with
 |nil=>
  intro p m q o h B ho z J j
  obtain ⟨m,rfl,A⟩:=amr B
  have hp:l=p:=by grind
  subst hp
  have E:aq o:=fun c hc=>hl c ((j c).1 hc)
  have L:4294967296<=k:=hk
  simp only [pZ,awk,akb h,n3,List.all_nil,if_true]
  have:=ae2 hk I E (by omega) o [] k [] rfl (by omega) (by simp)
  grind [akd]
 |cons x r M=>
  intro p m q o h B ho z J j
  obtain ⟨m,rfl,A⟩:=amr B
  obtain ⟨O,T,W,Y⟩:=apy h (by omega)
  have hx:aX x:=hl x (by grind)
  have ad:p.length<l.length:=by grind
  simp only [pZ,awk,O,ae,T,sf,ag hk,Rg hk hx]
  rw [J,W]
  by_cases hr:fE x=true
  ·have:(x::r).all fE=r.all fE:=by grind
   rw [hr,aq6,n3,this]
   by_cases F:x∈o
   ·grind [n3]
   ·rw [decide_eq_false F,aqD,ae,J5 (by grind)]
    refine M (p++[x]) m _ (o++[x]) Y A (by grind) (List.nodup_append.2 ⟨z,by simp,fun a ha b hb=>by grind⟩) (fun c=> ?_) fun c=> ?_
    all_goals grind [agK]
  grind [ae]
theorem kX (hk:Fu k) {l:LC} (hl:aq l) (hlen:l.length<2147483648) (I:LC×Int->OS S):gy k l I=I (bp l):=by
 simp only [gy,Hw]
 exact af3 hk I hl hlen l [] k [] [] rfl (by omega) (by simp) List.nodup_nil (fun c=>by rfl) (fun c=>Iff.rfl)
theorem aeg (hk:Fu k) (I:Bool->OS S) {a b:LC} (hlen:a.length<4294967296):
  ∀ (r s p q:LC) (m:Nat),a=p++r->b=q++s->p.length=q.length->r.length=s.length->r.length<m->qN k I a b m (p.length:Int)=I (decide (r=s)):=by
 intro r
 induction r with
 |nil=>
  grind [amr,qN,yb,n3]
 |cons x r B=>
  intro s p q m h h' E j F
  obtain ⟨m,rfl,z⟩:=amr F
  cases s with
  |nil=>cases j
  |cons y s=>
   obtain ⟨J,L,M,O⟩:=apy h (by omega)
   have A:af b (p.length:Int)=some y:=by grind [uB]
   simp only [qN,yb,J,ae,L,A,sf,lm,M]
   rw [B s (p++[x]) (q++[y]) m O (by grind) (by simp_all) (by grind) z]
   by_cases T:x=y<;>simp_all [n3,ae]
theorem aiN (hk:Fu k) {a b:LC} (hlen:a.length<4294967296) (I:Bool->OS S):zz k a b I=I (decide (a=b)):=by
 simp only [zz,IL]
 by_cases h:a.length=b.length
 ·have e:((a.length:Int)==(b.length:Int))=true:=by simp [h]
  rw [e,aq6,n3]
  exact aeg hk I hlen a b [] [] k rfl rfl rfl h (by omega)
 ·have e:((a.length:Int)==(b.length:Int))=false:=by grind
  rw [e,aqD,ae,decide_eq_false]
  grind
theorem LF (l:LC):(bp l).1.length<=64:=by
 grind [bp]
def ary (f:LC):Bool:=decide (bp f=(f,0))
theorem rH (hk:Fu k) {f:LC} (hf:aq f) (hlen:f.length<2147483648) (I:Bool->OS S):hY k f I=I (ary f):=by
 have:=LF f
 simp only [hY,ag hk,kX hk hf hlen,aiN hk (show (bp f).1.length<4294967296 by omega),cH,ary,beq_iff_eq]
 by_cases h:(bp f).2=0
 all_goals simp_all [Prod.ext_iff]
def RF (f:LC):Prop:=bp f=(f,0)/\aq f
theorem atQ {f:LC} (h:aq f):ary f=true↔RF f:=by grind [ary,RF]
theorem RF.right {f:LC} (h:RF f):ary f=true:=by unfold ary;simp [h.1]
theorem As {l o:LC} (h:bp l=(o,0)):o=asQ l/\l.all fE=true/\o.length<=64:=by
 grind [bp]
theorem RF.len {f:LC} (h:RF f):f.length<=64:=(As h.1).2.2
theorem RF.rc {f:LC} (h:RF f) {c:Cl} (hc:c∈f):RC c:=(Bp (h.2 c hc)).1 (ars.1 (As h.1).2.1 c hc)
theorem agN (l:LC):asQ (asQ l)=asQ l:=BL (re _) (re _) fun c=>by
 grind [mem_mins,ce]
theorem qX {l:LC} (hl:aq l) (h:(bp l).2=0):RF (bp l).1:=by
 have h':bp l=((bp l).1,0):=Prod.ext rfl h
 obtain ⟨h1,h2,q⟩:=As h'
 have j:aq (bp l).1:=fun c hc=>hl c ((mem_mins.1 (h1▸hc)).1)
 refine ⟨?_,j⟩
 grind [bp,mem_mins,agN]
theorem agf {l:LC} (h:(bp l).2≠0):(bp l).1=[]:=by
 grind [bp]
theorem rA:RF []:=⟨rfl,fun c hc=>by cases hc⟩
theorem gS {c:Cl} (h:RC c):RF [c]:=by
 have j:aq [c]:=fun d hd=>by simp at hd;subst hd;exact h.ok
 refine ⟨?_,j⟩
 have q:asQ [c]=[c]:=BL (re _) (by simp) fun d=>by
  grind [mem_mins,ce]
 unfold bp
 rw [q,if_pos (by simp [(Bp h.ok).2 h]),if_neg (by simp)]
theorem oA:RC ⟨0,0⟩:=⟨⟨by decide,by decide⟩,by decide,by decide⟩
theorem ami {f g:LC} (hf:aq f) (j:aq g):aq (f++g):=fun c hc=>by
 rcases atc.1 hc with h|h
 ·exact hf c h
 ·exact j c h
theorem afJ (hk:Fu k) (I:Int->OS S) {l:List (LC)} (hl: ∀f∈l,aq f/\f.length<2147483648) (hlen:l.length<4294967296):
  ∀ (r p:List (LC)) (m:Nat),l=p++r->r.length<m->qi k I l m (p.length:Int)=I (if r.all ary then 0 else 2):=by
 intro r
 induction r with
 |nil=>
  grind [amr,qi,w9,n3]
 |cons x r z=>
  intro p m h j
  obtain ⟨m,rfl,q⟩:=amr j
  obtain ⟨A,B,E,F⟩:=apy h (by omega)
  have J:=hl x (by grind)
  grind [qi,w9,ae,ag,rH,n3]
theorem Hc (hk:Fu k) {l:List (LC)} (hl: ∀f∈l,aq f/\f.length<2147483648) (hlen:l.length<4294967296) (I:Int->OS S):pi k l I=I (if l.all ary then 0 else 2):=by
 simp only [pi,HT]
 exact afJ hk I hl hlen l [] k rfl (by omega)
def alO (f g:LC):LC×Int:=bp (f++g)
def meets (f g:LC):LC:=f.flatMap fun a=>g.map (d9 a)
def alV (f g:LC):LC×Int:=bp (meets f g)
theorem ND {f g:LC} (hf:aq f) (j:aq g):aq (meets f g):=fun c hc=>by
 obtain ⟨a,ha,hc⟩:=List.mem_flatMap.1 hc
 obtain ⟨b,hb,rfl⟩:=arR.1 hc
 exact Aw (hf a ha) (j b hb)
theorem kS {f g:LC} (hf:aq f) (j:aq g) (h:(alV f g).2=0):RF (alV f g).1:=qX (ND hf j) h
theorem Lc {f g:LC} (hf:aq f) (j:aq g) (h:(alO f g).2=0):RF (alO f g).1:=qX (ami hf j) h
theorem Bz (hk:Fu k) {f g:LC} (hf:aq f) (j:aq g) (h1:f.length<1073741824) (h2:g.length<1073741824) (I:LC×Int->OS S):na k f g I=I (alO f g):=by
 simp only [na,ag hk,as2]
 rw [J5 (by grind),J5 (by omega),kX hk (ami hf j) (by grind)]
 rfl
theorem afa (hk:Fu k) (I:LC×Int->OS S) (j:Int->LC->OS S) {x:Cl} (A:aX x) {g f:LC} {v:Int} (B:aq g) (hlen:g.length<65536):
  ∀ (r p:LC) (m:Nat) (o:LC),g=p++r->r.length<m->o.length+r.length<1099511627776->nA k I j x g f v m (p.length:Int) o=j (su .i64 (v+1)) (o++r.map (d9 x)):=by
 intro r
 induction r with
 |nil=>
  intro p m o h q ho
  obtain ⟨m,rfl,z⟩:=amr q
  grind [nA,w7,n3]
 |cons y r M=>
  intro p m o h q ho
  obtain ⟨m,rfl,z⟩:=amr q
  obtain ⟨E,F,J,O⟩:=apy h (by omega)
  have L:aX y:=B y (by grind)
  simp only [aq5] at ho
  simp only [nA,w7,E,ae,F,sf,ag hk,G_ hk A L,J]
  grind [J5]
theorem ae_ (hk:Fu k) (I:LC×Int->OS S) {g f:LC} (hf:aq f) (z:aq g) (B:f.length<32768) (E:g.length<32768):
  ∀ (r p:LC) (m:Nat) (o:LC),f=p++r->r.length<m->aq o->o.length+r.length*g.length<1073741825->lZ k I g f m (p.length:Int) o=I (bp (o++meets r g)):=by
 intro r
 induction r with
 |nil=>
  grind [amr,lZ,an_,n3,ag,kX,meets]
 |cons x r F=>
  intro p m o h J j ho
  obtain ⟨m,rfl,q⟩:=amr J
  obtain ⟨L,M,O,T⟩:=apy h (by omega)
  have A:aX x:=hf x (by grind)
  have hmul:(x::r).length*g.length=r.length*g.length+g.length:=by grind
  rw [hmul] at ho
  have W:4294967296<=k:=hk
  simp only [lZ,an_,L,ae,M,sf]
  have:=afa hk I (lZ k I g f m) (f:=f) (v:=(p.length:Int)) A z (by omega) g [] k o rfl (by omega) (by omega)
  simp only [List.length_nil] at this
  rw [show (0:Int)=((0:Nat):Int) from rfl,this,O,F (p++[x]) m _ T q (ami j fun c hc=>by
   obtain ⟨b,hb,rfl⟩:=arR.1 hc
   exact Aw A (z b hb)) (by grind)]
  simp [meets]
theorem vY (hk:Fu k) {f g:LC} (hf:aq f) (j:aq g) (h1:f.length<32768) (h2:g.length<32768) (I:LC×Int->OS S):jW k f g I=I (alV f g):=by
 simp only [jW,HR]
 have hb:f.length*g.length<1073741824:=Nat.lt_of_le_of_lt (Nat.mul_le_mul (Nat.le_of_lt_succ h1) (Nat.le_of_lt_succ h2)) (by decide)
 have:=ae_ hk I hf j h1 h2 f [] k [] rfl (by omega) (fun c hc=>by cases hc) (by grind)
 grind [alV]
theorem RF.lt {f:LC} (h:RF f):f.length<2147483648:=by have:=h.len;omega
theorem u0:U32 0:=⟨by decide,by decide⟩
def nl (i:Int):Cl:=⟨0,e_ 0 i⟩
def pl (i:Int):Cl:=⟨e_ 0 i,0⟩
theorem FR (i:Int):RC (nl i):=⟨⟨by show (0:Int)<=0;decide,by show (0:Int)<16777216;decide⟩,ao2⟩
theorem F1 (i:Int):RC (pl i):=⟨ao2,⟨by show (0:Int)<=0;decide,by show (0:Int)<16777216;decide⟩⟩
def jI (c:Cl):LC:=(amp c.pos).map nl++(amp c.neg).map pl
def oj (c:Cl):LC×Int:=bp (jI c)
theorem Fi (s:Int):(amp s).length<=24:=by grind [amp,amb,gu]
theorem NV {c d:Cl} (h:d∈jI c):RC d:=by
 rcases atc.1 h with h|h<;>grind [FR,F1]
theorem ahw (c:Cl):(jI c).length<=48:=by
 grind [Fi,jI]
theorem LH {l:LC} (h: ∀c∈l,RC c) (hl:l.length<=64):(bp l).2=0:=by
 have:=agM l
 unfold bp
 rw [if_pos (ars.2 fun c hc=>(Bp (h c hc).ok).2 (h c hc)),if_neg (by omega)]
theorem NW (c:Cl):(oj c).2=0:=LH (fun d hd=>NV hd) (by have:=ahw c;omega)
theorem AC (c:Cl):RF (oj c).1:=qX (fun d hd=>(NV hd).ok) (NW c)
theorem afe (hk:Fu k) (I:LC×Int->OS S) {l:List Int} (hlen:l.length<=64):
  ∀ (r p:List Int) (m:Nat) (o:LC),l=p++r->r.length<m->aq o->o.length+r.length<1073741824->avc k I l m (p.length:Int) o=I (bp (o++r.map pl)):=by
 intro r
 induction r with
 |nil=>
  grind [amr,avc,w8,n3,ag,kX]
 |cons x r z=>
  intro p m o h A j ho
  obtain ⟨m,rfl,q⟩:=amr A
  obtain ⟨B,E,F,J⟩:=apy h (by omega)
  simp only [aq5] at ho
  simp only [avc,w8,B,ae,E,sf,ag hk,vV hk u0,F]
  rw [J5 (by grind),z (p++[x]) m _ J q (ami j fun c hc=>by simp at hc;subst hc;exact (F1 x).ok) (by grind)]
  simp [pl]
theorem afd (hk:Fu k) (I:LC×Int->OS S) {c:Cl} (hc:aX c) {l:List Int} (hlen:l.length<=64):
  ∀ (r p:List Int) (m:Nat) (o:LC),l=p++r->r.length<m->aq o->o.length+r.length<1000000->qh k I c l m (p.length:Int) o=I (bp (o++r.map nl++(amp c.neg).map pl)):=by
 intro r
 induction r with
 |nil=>
  intro p m o h z j ho
  obtain ⟨m,rfl,q⟩:=amr z
  simp only [List.length_nil] at ho
  have hl:=Fi c.neg
  have A:4294967296<=k:=hk
  simp only [qh,aoa,akb h,n3,vz,Ny hc.2,List.map_nil,arE]
  grind [afe]
 |cons x r B=>
  intro p m o h z j ho
  obtain ⟨m,rfl,q⟩:=amr z
  obtain ⟨E,F,J,L⟩:=apy h (by omega)
  simp only [aq5] at ho
  simp only [qh,aoa,E,ae,F,sf,ag hk,vV hk u0,J]
  rw [J5 (by grind),B (p++[x]) m _ L q (ami j fun c hc=>by simp at hc;subst hc;exact (FR x).ok) (by grind)]
  simp [nl]
theorem ajs (hk:Fu k) {c:Cl} (hc:aX c) (I:LC×Int->OS S):yV k c I=I (oj c):=by
 have hl:=Fi c.pos
 simp only [yV,HS,vz,Ny hc.1]
 have:=afd hk I hc (l:=amp c.pos) (by omega) (amp c.pos) [] k [] rfl (by omega) (fun c hc=>by cases hc) (by grind)
 grind [oj,jI]
def adU (step:LC->Cl->LC×Int):LC->LC->LC×Int
 |h,[]=>(h,0)
 |h,c::r=>if (step h c).2=0 then adU step (step h c).1 r else ([],(step h c).2)
def mn (h:LC) (c:Cl):LC×Int:=alV h (oj c).1
def alU (f:LC):LC×Int:=adU mn [⟨0,0⟩] f
theorem KG {step:LC->Cl->LC×Int} (hs: ∀h c,RF h->(step h c).2=0->RF (step h c).1): ∀ {r h:LC},RF h->(adU step h r).2=0->RF (adU step h r).1:=by
 intro r
 induction r<;>grind [adU]
theorem FS (h:LC) (c:Cl) (j:RF h) (q:(mn h c).2=0):RF (mn h c).1:=kS j.2 (AC c).2 q
theorem ju {f:LC} (h:(alU f).2=0):RF (alU f).1:=KG FS (gS oA) h
theorem bG (n:Int):(n==0)=decide (n=0):=by rfl
theorem ajr (hk:Fu k) {h:LC} {c:Cl} (j:RF h) (hc:aX c) (I:LC×Int->OS S):yU k h c I=I (mn h c):=by
 have:=j.len;have:=(AC c).len
 simp only [yU,ag hk,ajs hk hc,NW,vY hk j.2 (AC c).2 (show h.length<32768 by omega) (show (oj c).1.length<32768 by omega)]
 rfl
theorem aeS (hk:Fu k) (I:LC×Int->OS S) {l:LC} (hl:aq l) (hlen:l.length<2147483648):
  ∀ (r p:LC) (m:Nat) (h:LC),l=p++r->r.length<m->RF h->qe k I l m h (p.length:Int)=I (adU mn h r):=by
 intro r
 induction r with
 |nil=>
  intro p m h e j z
  obtain ⟨m,rfl,q⟩:=amr j
  simp only [qe,w5,akb e,n3];rfl
 |cons x r J=>
  intro p m h e j z
  obtain ⟨m,rfl,q⟩:=amr j
  obtain ⟨A,B,E,L⟩:=apy e (by omega)
  have F:aX x:=hl x (by grind)
  simp only [qe,w5,A,ae,B,sf,ag hk,ajr hk z F,bG,E]
  grind [n3,FS,adU,ae]
theorem Rq (hk:Fu k) {f:LC} (hf:aq f) (hlen:f.length<2147483648) (I:LC×Int->OS S):ph k f I=I (alU f):=by
 simp only [ph,ag hk,au3,DP,HP]
 exact aeS hk I hf hlen f [] k _ rfl (by omega) (gS oA)
theorem aja (hk:Fu k) {f:LC} (hf:aq f) (hlen:f.length<2147483648) (I:LC×Int->OS S):yQ k f I=I (if ary f then alU f else ([],2)):=by
 simp only [yQ,ag hk,Hc hk (l:=[f]) (by grind) (by simp),Rq hk hf hlen]
 have:[f].all ary=ary f:=by simp
 rw [this]
 by_cases h:ary f=true
 ·rw [if_pos h,if_pos h];rfl
 ·rw [if_neg h,if_neg h];rfl
end Go.Proofs.YtgmmefmmnakbpaaGreatDoor
