/- Part 2 of a proof: the sources, with their names and remarks, lie in wip/. -/
import Derived.Test.YtgmmefmmnakbpaaGreatDoorX1
import Derived.Test.YtgmmefmmnakbpaaGreatDoorProg
import Derived.KernelRfl
open Bool renaming and_eq_true→anZ,not_false→aqD,not_true→aq6
open ByteArray renaming empty→alH
open Go.IntKind renaming wrap→su
open Int renaming toNat→arM,toNat_natCast→asG
open List renaming all_eq_true→ars,append_nil→arE,length_cons→aq5,mem_append→arH,mem_cons→arR,mem_map→art,mem_of_getElem?→as2,nil_append→arU,range→ar3
open Nat renaming beq→aoy,le_trans→arA
open Option renaming bind→sf,bind_some→an4
set_option linter.unusedVariables false
set_option linter.unusedSimpArgs false
namespace Go.Proofs.YtgmmefmmnakbpaaGreatDoor.PI
open Go
section
variable {U:Uni} {V:Env U} {P:Program} {X:Link V P}
def Ctx.refix (c:Ctx) (μ:Nat->Option Nat) (L:List Nat) (hnt:c.nt<=1000000) (hL: ∀id∈L,1000000<=id):Ctx:=
 {c with
  fix:=fun id=>if id∈L then μ id else c.fix id
  low:=fun id k h=>by
   split at h
   ·grind
   ·exact c.low id k h}
theorem Sim.refix {c:Ctx} {tm:Array Value} {w:World} {σ:St U} {g:Gh U} {D:Nat->Option Nat} (h:Sim X c tm w σ g D) {L:List Nat} {hnt:c.nt<=1000000} {hL: ∀id∈L,1000000<=id}:
  Sim X (c.refix g.μ L hnt hL) tm w σ g D where
 nt:=h.nt
 regs:=h.regs
 boxes:=h.boxes
 dom:=h.dom
 inj:=h.inj
 new:=h.new
 objs:=h.objs
 nobj:=h.nobj
 dinj:=h.dinj
 dnew:=h.dnew
 dbox:=h.dbox
 ext:=h.ext
 gl:=h.gl
 fix:=fun id k hk=>by
  simp only [Ctx.refix]
  by_cases hin:id∈L
  ·grind
  ·rw [if_neg hin];exact h.fix id k hk
theorem CtxOf.refix {c:Ctx} {tm:Array Value} {w:World} {σ:St U} {g:Gh U} {D:Nat->Option Nat} (h:Sim X c tm w σ g D) {L:List Nat} {hnt:c.nt<=1000000} {hL: ∀id∈L,1000000<=id} (hLμ: ∀id∈L,∃b,g.μ id=some b)
  {w0:World} {N0:aN} {n m:Nat} {ν:Nat->Nat} {δ:Nat->Option Nat} {ο:Nat->Array Value} (hc:CtxOf c w0 N0 n m ν δ ο):CtxOf (c.refix g.μ L hnt hL) w0 N0 n m ν δ ο where
 cw:=hc.cw
 cN:=hc.cN
 bl:=hc.bl
 fix i hi:=by
  simp only [Ctx.refix]
  by_cases hin:df i∈L
  ·rw [if_pos hin]
   obtain ⟨b,hb⟩:=hLμ _ hin
   rcases h.fix _ _ hb with h1|⟨h1,_⟩
   ·rw [hb,<-h1];exact hc.fix i hi
   ·rw [hc.fix i hi] at h1;cases h1
  ·rw [if_neg hin];exact hc.fix i hi
 other id k hk:=by
  simp only [Ctx.refix] at hk
  by_cases hin:id∈L
  ·rw [if_pos hin] at hk
   rcases h.fix _ _ hk with h1|⟨_,h1⟩
   ·exact hc.other id k h1
   ·rw [hc.cw] at h1;omega
  ·rw [if_neg hin] at hk;exact hc.other id k hk
 bnd:=hc.bnd
 oo:=hc.oo
def Ca (c':Ctx) (caps:List (PV U)) (us:Array Value):Prop:=us.size=caps.length/\ ∀ (j:Nat) p,caps[j]? =some p-> ∃id off b,p= .ptr id off/\c'.fix id=some b/\us.getD j undef= .pointer (some ⟨b,off,none⟩)
def Cc (X:Link V P) (S:Side U) (code:Code) (σ:St U) (h:FuncId) (caps:List (PV U)) (e:Ex U) (τ:St U):Prop:=
 ∀ (c:Ctx),PinOK S c->c.nt=S.nt-> ∀ (a:Act) (w:World) (g:Gh U) (D:Nat->Option Nat) (Q:Exit->Act->World->Prop),Sim X c a.tmps w σ g D->a.defers=[]->
  (∀ (us:Array Value) (c':Ctx),(∀w0 N0 n m ν δ ο,CtxOf c w0 N0 n m ν δ ο->CtxOf c' w0 N0 n m ν δ ο)->c'.nt=c.nt->Ca c' caps us->Lands X c' [{target:= .fn (.func h) us,args:= #[]}] e τ Q)->code.wp P Q a w
theorem aaj {l:List Oper} {o:Oper} {n:Tmp} (h:D4 l=some (o,n)): ∃q cl,l=[o,q]/\o.dst=some n/\o.guard=none/\q.dst=none/\q.op= .defer cl/\q.guard=none/\cl.callee= .value (.tmp n)/\cl.args= #[]:=by
 unfold D4 at h
 split at h
 case h_2=>cases h
 rename_i o' q
 split at h
 case h_2=>cases h
 rename_i m cl h1 h2 h3 h4 h5
 split at h
 case h_2=>cases h
 rename_i n' hcl
 cases hb:(aoy m n'&&cl.args.isEmpty)<;>simp_all
theorem aiy (hm:P.follows .mixedOrders=true) (hI:lf X) {S:Side U} (hS:S.rcv=none) (hlow:S.nt<=1000000) {R:Type} {C:Oracle U R} (hC:C.Tells (ci X)) {ann:Nat->Option Ann} {fuel:Nat}:
  ∀ (code:Code) {σ:St U} {κ0:Ex U->St U->Option R} {κ1:FuncId->List (PV U)->Ex U->St U->Option R} {x:R},oD V S C ann fuel code σ κ0 κ1=some x->
   (∃e τ,e≠ .normal/\κ0 e τ=some x/\ ∀c,PinOK S c->c.nt=S.nt->wE X c none code σ e τ)\/
   (∃h caps e τ,κ1 h caps e τ=some x/\Cc X S code σ h caps e τ):=by
 intro code
 induction code with
 |seq a b iha ihb=>
  intro σ κ0 κ1 x h
  have step:run V S C ann fuel a σ (fun| .normal,σ'=>oD V S C ann fuel b σ' κ0 κ1|e,σ'=>κ0 e σ')=some x->
    (∃e τ,e≠ .normal/\κ0 e τ=some x/\ ∀c,PinOK S c->c.nt=S.nt->wE X c none (.seq a b) σ e τ)\/
    (∃h caps e τ,κ1 h caps e τ=some x/\Cc X S (.seq a b) σ h caps e τ):=by
   intro h
   obtain ⟨e,τ,hbig,hk⟩:=Bv (ci X) V S ann hC fuel a h
   have early:e≠ .normal->κ0 e τ=some x->_:=fun he hk=>(.inl ⟨e,τ,he,hk,fun c hP hnt=>oX hm (oi hI hS hP) hnt (.seqE a b _ _ _ hbig he)⟩:
    (∃e τ,e≠ .normal/\κ0 e τ=some x/\ ∀c,PinOK S c->c.nt=S.nt->wE X c none (.seq a b) σ e τ)\/(∃h caps e τ,κ1 h caps e τ=some x/\Cc X S (.seq a b) σ h caps e τ))
   cases e with
   |normal=>
    rcases ihb hk with ⟨e',τ',he',hk',hB⟩|⟨hh,caps,e',τ',hk',hB⟩
    ·exact .inl ⟨e',τ',he',hk',fun c hP hnt a' w g D Q hs hl=>wp_seq (oX hm (oi hI hS hP) hnt hbig a' w g D _ hs fun a2 w2 g2 D2 hd2 hs2=>hB c hP hnt a2 w2 g2 D2 Q hs2 (by grind))⟩
    ·exact .inr ⟨hh,caps,e',τ',hk',fun c hP hnt a' w g D Q hs hd hl=>wp_seq (oX hm (oi hI hS hP) hnt hbig a' w g D _ hs fun a2 w2 g2 D2 hd2 hs2=>hB c hP hnt a2 w2 g2 D2 Q hs2 (hd2.trans hd) hl)⟩
   |exit id=>grind
   |ret=>grind
   |panic v=>grind
  clear iha
  unfold oD at h
  split at h
  case h_2=>grind
  rename_i id ops draw
  split at h
  case h_2=>grind
  rename_i o n hdfr
  obtain ⟨q,cl,hops,ho1,ho2,hq1,hq2,hq3,hcl,hargs⟩:=aaj hdfr
  cases hc:(!draw&&bq S.nt o) with
  |false=>grind
  |true=>
  rw [hc] at h
  simp only [cond_true] at h
  simp only [anZ,Bool.not_eq_true'] at hc
  obtain ⟨hdraw,hdo⟩:=hc
  subst hdraw
  obtain ⟨r,τ0,τ,gp,hrel,ht,hk⟩:=gx hC _ h (St.eqv.refl σ)
  cases r with
  |raise v=>cases hk
  |out o=>cases hk
  |done=>
  simp only at hk
  split at hk
  case h_2=>cases hk
  rename_i hh caps hfun
  cases hp:caps.all PV.pinned with
  |false=>grind
  |true=>
  rw [hp] at hk
  simp only [cond_true] at hk
  obtain ⟨e,τ2,hbig,hk2⟩:=Bv (ci X) V {S with pin:=fun _=>false} ann hC fuel b hk
  refine .inr ⟨hh,caps,e,τ2,hk2,fun c hP hnt a w g D Q hs hdef hl=>wp_seq (wp_region ?_)⟩
  have hsz:ops.size=2:=by have:=congrArg List.length hops;omega
  have h0:ops[0]? =some o:=by rw [<-Array.getElem?_toList,hops];rfl
  have h1:ops[1]? =some q:=by rw [<-Array.getElem?_toList,hops];rfl
  rw [hsz,show ar3 2=[0,1] from rfl]
  simp only [wpOps,h0,h1]
  rw [if_pos (by simp [Region.wanted,ho2])]
  refine .inl (oi hI hS hP o a w σ g D .done τ0 [] gp _ _ (by grind) hs hrel ⟨fun _ a2 w2 g2 D2 hd2 hs2=> ?_,fun v hv=>by cases hv⟩)
  rw [if_pos (by simp [Region.wanted,hq3])]
  refine .inl ?_
  have hs3:=hs2.eqv ht
  have hR:=hs3.regs n
  rw [hfun] at hR
  generalize hev:a2.tmps.getD n undef=ev at hR
  cases hR with
  |func _ _ _ vs us hvs hus hf1 hf2=>
  have hvs0:vs= #[]:=by
   grind
  subst hvs0
  obtain ⟨qd,qo,qt,qp,qa,qg⟩:=q
  simp only at hq1 hq2 hq3
  subst hq1;subst hq2;subst hq3
  have hrun:(execOp a2.eval ⟨none,.defer cl,qt,qp,qa,none⟩).run P w2= .ok (.defer {target:= .fn (.func hh) us,args:= #[]}) w2:=by
   have hev':a2.eval (.tmp n)= .func (.func hh) #[] us:=hev
   simp_all [execOp,resolve,Deferred.ofValue]
  unfold Oper.wp
  rw [hrun,Oper.upon_defer]
  have hids: ∀id∈PV.idsL caps,1000000<=id/\ ∃b,g2.μ id=some b:=by
   intro id hid
   obtain ⟨p,hpm,hpi⟩: ∃p∈caps,id∈p.ids:=by
    clear hl hk2 hbig hk hf1 hf2 hus hfun hp h step
    induction caps<;>grind [PV.idsL]
   have hpp:=ars.1 hp p hpm
   obtain ⟨j,hj⟩:=List.mem_iff_getElem?.1 hpm
   have hr:=hf2 j p hj
   cases p with
   |ptr id' off=>
    simp only [PV.ids,List.mem_singleton] at hpi
    subst hpi
    refine ⟨by simp_all [PV.pinned], ?_⟩
    generalize us.getD j undef=uv at hr
    cases hr<;>grind
   |_=>cases hpp
  have hcnt:c.nt<=1000000:=by omega
  refine oX (S:={S with pin:=fun _=>false}) hm (oi hI hS fun d hd=>by cases hd) (c:=c.refix g2.μ (PV.idsL caps) hcnt fun id hid=>(hids id hid).1) hnt hbig _ w2 g2 D2 Q hs3.refix ?_
  have hld:=hl us (c.refix g2.μ (PV.idsL caps) hcnt fun id hid=>(hids id hid).1) (fun w0 N0 n m ν δ ο hc=>CtxOf.refix hs3 (fun id hid=>(hids id hid).2) hc) rfl ⟨hus,fun j p hj=> ?_⟩
  ·grind [Act.put]
  ·have hpp:=ars.1 hp p (as2 hj)
   have hr:=hf2 j p hj
   cases p with
   |ptr id off=>
    have hin:id∈PV.idsL caps:=fj hj id (by simp [PV.ids])
    generalize us.getD j undef=uv at hr
    cases hr<;>grind [Ctx.refix]
   |_=>cases hpp
 |_=>intro σ κ0 κ1 x h;cases h
end
section
variable {U:Uni} {V:Env U} {P:Program} {X:Link V P}
theorem Fe {fn:Func} {w0:World} {N0:aN} {n m:Nat} {ν:Nat->Nat} {δ:Nat->Option Nat} {c':Ctx} {ο:Nat->Array Value} (hc:CtxOf c' w0 N0 n m ν δ ο) (hdom: ∀j b,δ j=some b->j<m) {v:PV U} {u u':FrameMode} (hv:RcvOK v u u')
  {hh:FuncId} {caps:List (PV U)} {us:Array Value} (hct:Ca c' caps us) {τ τ1:St U} {r:MR U} {τ0:St U} {gp gp':List Loc} {K:cj U} {keep:Bool} {hand:List Bool} {out:Out U} {τ2:St U}
  (hrel:(iq (PV.idsL caps) fun _=>iV (fun _=>0) (fun _=>[]) [] none (.func hh [] caps) []).Rel (jS X (jM P u u')) τ [] r τ0 gp) (hr:r= .done) (ht:τ0.eqv τ1) (hret:(jC V keep hand fn.results.toList n).Rel K τ1 [] (.out out) τ2 gp')
  {a:Act} {w:World} {g:Gh U} {D:Nat->Option Nat} (hs:Sim X c' a.tmps w τ g D):
  Leaves P fn a.tmps (Ret X w0 N0 ν δ ο n m out) [{target:= .fn (.func hh) us,args:= #[]}] u w:=by
 obtain ⟨bs,fp1,hrel1,hkeys,hbs⟩:=EB _ hrel
 have hR:Rep X w (c'.N g D) g (.func (.func hh) #[] us) (.func hh [] caps):=by
  refine .func hh [] caps #[] us rfl hct.1 (by simp) fun j p hp=> ?_
  obtain ⟨id,off,b,rfl,hfix,hus⟩:=hct.2 j p hp
  rw [hus]
  refine .ptr id off b ?_
  have hin:id∈PV.idsL caps:=fj hp id (by simp [PV.ids])
  rw [<-hkeys] at hin
  obtain ⟨x,hx,rfl⟩:=art.1 hin
  obtain ⟨k,hk,_⟩:=hs.boxes x.1 x.2 (hbs x hx)
  rcases hs.fix _ _ hk with h1|⟨h1,_⟩
  ·rw [hfix] at h1;injection h1 with h1;rw [h1];exact hk
  ·rw [hfix] at h1;cases h1
 obtain ⟨f,a0s,bs',hfv,⟨fnh,hfh,hnameh,hbodyh⟩,hcall⟩:=Jv (X:=X) (c:=c') (a:=a) (dst:=none) (o:=⟨none,.move (.const undef),0, "",#[],none⟩) (CP:=jM P u u') (xs:= #[])
  (next:=fun a2 w2=>Leaves P fn a2.tmps (Ret X w0 N0 ν δ ο n m out) [] .returning w2) (Q:=fun _ _ _=>False)
  (fun {f vs w R R'} h hm=>CallsD.mono h fun e u2 w2 ⟨h1,h2⟩=>⟨h1,hm e w2 h2⟩) hs hR rfl (by simp) rfl rfl hrel1
  ⟨fun _ a2 w2 g2 D2 _ hs2=>by
   obtain ⟨v,h1,h2⟩:=rz hc hdom (hs2.eqv ht) hret
   exact ⟨v,h1,h2⟩,fun v hv=>by rw [hr] at hv;cases hv⟩
 injection hfv with e1 e2 e3
 injection e1 with e1
 subst e1;subst e2;subst e3
 have hun:u≠ .run:=by cases hv<;>simp
 refine leaves_cons hun (f:=hh) (args:= #[]++us) (by simp only [invoke];exact QP hfh hnameh hbodyh _ w) ?_
 have hcall2:CallsD P hh (#[]++us) u w fun e u2 w'=>u2=u'/\(match e,w' with
    | .returned v,w''=>Leaves P fn (a.put none v).tmps (Ret X w0 N0 ν δ ο n m out) [] .returning w''
    | .panicked chain,w''=>False
    | .outgrown,_=>LetsOut (fun _ _ _=>False)):=by
  have:=hcall
  simp only [Array.append_empty] at this
  exact this.mono fun e u2 w2 ⟨h1,h2⟩=>⟨h1,by cases e<;>exact h2⟩
 refine hcall2.mono fun e u2 w2 ⟨h1,h2⟩=> ?_
 subst h1
 cases e with
 |returned rv=>
  simp only [Act.put] at h2
  have hset:settle u2= .returning:=by cases hv<;>rfl
  simp only [hset]
  exact h2
 |panicked chain=>exact h2.elim
 |outgrown=>obtain ⟨_,_,h⟩:=h2;exact h.elim
theorem aix (hm:P.follows .mixedOrders=true) (hI:lf X) {S:Side U} (hS:S.rcv=none) {R:Type} {C:Oracle U R} (hC:C.Tells (ci X)) {Cd:PV U->Oracle U R} (hCd: ∀v u u',RcvOK v u u'->(Cd v).Tells (jS X (jM P u u')))
  {f:FuncId} {fn:Func} (hf:P.funcs[f]? =some fn)
  (hname:(fn.name== "runtime.NumGoroutine")=false) (hbody:fn.body.isNone=false) (hnt:fn.ntmps=S.nt) (hlow:S.nt<=1000000) {args:List (PV U)} {boxes:List (Box U)} (hargs:args.length<=S.nt) (hboxes:boxes.length<=1000000)
  {ann:Nat->Option Ann} {fuel:Nat} {keep:Bool} {hand:List Bool} {κ:Out U->Option R} {x:R} (h:G4 V S C ann fuel Cd keep hand fn args boxes κ=some x): ∃out,κ out=some x/\ci X f args boxes out:=by
 obtain ⟨code,hcode⟩: ∃code,fn.body=some code:=by
  cases hb:fn.body with
  |none=>rw [hb] at hbody;cases hbody
  |some code=>exact ⟨code,rfl⟩
 unfold G4 atJ at h
 rw [hcode] at h
 have hpin: ∀ {w:World} {vs:Array Value} {N0:aN} {ν:Nat->Nat} {δ:Nat->Option Nat} {ο:Nat->Array Value} (hg:Given X w vs N0 ν δ ο args boxes),PinOK S (gm w N0 boxes.length args.length ν δ ο hg.oz S.nt hlow hg.bnd X.gblk hg.glob):=by
  intro w vs N0 ν δ ο hg d _
  simp only [gm]
  rw [if_neg (by omega)]
 rcases aiy (X:=X) hm hI hS hlow hC code h with ⟨e,τ,he,hk,hB⟩|⟨hh,caps,e,τ,hk,hB⟩
 ·have key: ∀ {out:Out U},(∀ (w:World) (vs:Array Value) (N0:aN) (ν:Nat->Nat) (δ:Nat->Option Nat) (ο:Nat->Array Value) (hg:Given X w vs N0 ν δ ο args boxes),
    Lands X (gm w N0 boxes.length args.length ν δ ο hg.oz S.nt hlow hg.bnd X.gblk hg.glob) [] e τ (bodyPost P fn (Ret X w N0 ν δ ο boxes.length args.length out)))->ci X f args boxes out:=by
   intro out hl
   refine ⟨⟨fn,hf,hname,hbody⟩,fun w vs N0 ν δ ο hg=>Calls.mono (calls_of_wp (R:=Ret X w N0 ν δ ο boxes.length args.length out) hf hcode ?_) fun e w h=>Ret.full h⟩
   have hs:=BO hg hargs hlow
   rw [hnt]
   exact hB _ (hpin hg) rfl _ w _ _ _ hs (hl w vs N0 ν δ ο hg)
  cases e with
  |exit id=>cases hk
  |normal=>exact absurd rfl he
  |ret=>
   obtain ⟨r,τ0,τ1,gp,hr,ht,hfin⟩:=gx hC _ hk (St.eqv.refl τ)
   cases r with
   |out o=>
    refine ⟨o,hfin,key fun w vs N0 ν δ ο hg a' w' g' D' hd hs=> ?_⟩
    obtain ⟨v,h1,h2⟩:=rz lc hg.dom hs hr
    exact ⟨hd,v,h1,h2⟩
   |_=>cases hfin
  |panic v=>
   obtain ⟨r,τ0,τ1,gp,hr,ht,hfin⟩:=gx hC _ hk (St.eqv.refl τ)
   cases r with
   |out o=>
    refine ⟨o,hfin,key fun w vs N0 ν δ ο hg a' w' g' D' hd hs val hval=> ?_⟩
    exact ⟨hd,F0 lc hg.dom hs hval hr⟩
   |_=>cases hfin
 ·have key: ∀ {out:Out U},(∀ (w:World) (vs:Array Value) (N0:aN) (ν:Nat->Nat) (δ:Nat->Option Nat) (ο:Nat->Array Value) (hg:Given X w vs N0 ν δ ο args boxes) (us:Array Value) (c':Ctx),CtxOf c' w N0 boxes.length args.length ν δ ο->Ca c' caps us->
    Lands X c' [{target:= .fn (.func hh) us,args:= #[]}] e τ (bodyPostD P fn (Ret X w N0 ν δ ο boxes.length args.length out)))->ci X f args boxes out:=by
   intro out hl
   refine ⟨⟨fn,hf,hname,hbody⟩,fun w vs N0 ν δ ο hg=>Calls.mono (calls_of_wp_defers (R:=Ret X w N0 ν δ ο boxes.length args.length out) hf hcode ?_) fun e w h=>Ret.full h⟩
   have hs:=BO hg hargs hlow
   rw [hnt]
   exact hB _ (hpin hg) rfl _ w _ _ _ hs rfl fun us c' hcx _ hct=>hl w vs N0 ν δ ο hg us c' (hcx _ _ _ _ _ _ _ lc) hct
  have fin: ∀ {v:PV U} {u u':FrameMode},RcvOK v u u'->(iq (PV.idsL caps) fun _=>iV (fun _=>0) (fun _=>[]) [] none (.func hh [] caps) []).cps (Cd v) τ [] (fun| .done,σ',_=>(jC V keep hand fn.results.toList boxes.length).cps C σ' [] (Go.Proofs.YtgmmefmmnakbpaaGreatDoor.PI.fin κ)|_,_,_=>none)=some x->
    ∃ (out:Out U) (r:MR U) (τ0 τ1 τ2:St U) (gp gp':List Loc),κ out=some x/\(iq (PV.idsL caps) fun _=>iV (fun _=>0) (fun _=>[]) [] none (.func hh [] caps) []).Rel (jS X (jM P u u')) τ [] r τ0 gp/\r= .done/\τ0.eqv τ1/\(jC V keep hand fn.results.toList boxes.length).Rel (ci X) τ1 [] (.out out) τ2 gp':=by
   intro v u u' hv hk
   obtain ⟨r,τ0,τ1,gp,hr,ht,hk1⟩:=gx (hCd v u u' hv) _ hk (St.eqv.refl τ)
   cases r with
   |raise v=>cases hk1
   |out o=>cases hk1
   |done=>
    obtain ⟨r',τ2,τ3,gp',hr',ht',hk2⟩:=gx hC _ hk1 (St.eqv.refl τ1)
    cases r' with
    |out o=>exact ⟨o,.done,τ0,τ1,τ2,gp,gp',hk2,hr,rfl,ht,hr'⟩
    |_=>cases hk2
  cases e with
  |exit id=>cases hk
  |normal=>
   obtain ⟨out,r,τ0,τ1,τ2,gp,gp',h1,h2,h3,h4,h5⟩:=fin .nil hk
   refine ⟨out,h1,key fun w vs N0 ν δ ο hg us c' hcx hct a' w' g' D' hd hs=> ?_⟩
   simp only [bodyPostD,hd]
   exact Fe hcx hg.dom .nil hct h2 h3 h4 h5 hs
  |ret=>
   obtain ⟨out,r,τ0,τ1,τ2,gp,gp',h1,h2,h3,h4,h5⟩:=fin .nil hk
   refine ⟨out,h1,key fun w vs N0 ν δ ο hg us c' hcx hct a' w' g' D' hd hs=> ?_⟩
   simp only [bodyPostD,hd]
   exact Fe hcx hg.dom .nil hct h2 h3 h4 h5 hs
  |panic v=>
   simp only [kD] at hk
   split at hk
   case h_2=>cases hk
   rename_i t k n'
   obtain ⟨out,r,τ0,τ1,τ2,gp,gp',h1,h2,h3,h4,h5⟩:=fin (.err t k n') hk
   refine ⟨out,h1,key fun w vs N0 ν δ ο hg us c' hcx hct a' w' g' D' hd hs val hval=> ?_⟩
   simp only [bodyPostD,hd]
   cases hval with
   |iface _ u _ hu=>cases hu;exact Fe hcx hg.dom (.err t k n') hct h2 h3 h4 h5 hs
end
end Go.Proofs.YtgmmefmmnakbpaaGreatDoor.PI
namespace Go.Proofs.YtgmmefmmnakbpaaGreatDoor
open Go PI
set_option maxRecDepth 100000
noncomputable section
noncomputable def uu:ET->TypeId
 | .C=>80
 | .T=>27
 | .B=>62
 | .I=>3
 | .F=>23
 | .D=>53
 | .G=>52
noncomputable def pQ:ET->Nat
 | .C=>2
 | .T=>6
 | .B=>2
 | .I=>1
 | .F=>1
 | .D=>7
 | .G=>7
noncomputable def zQ:ET->Nat
 | .C=>8
 | .T=>104
 | .B=>48
 | .I=>8
 | .F=>24
 | .D=>120
 | .G=>120
noncomputable def zY (e:ET):Value:=((Tryz.prog.info? (uu e)).bind (·.zero)).getD undef
noncomputable def Ep (e:ET):Bool:=match Tryz.prog.info? (uu e) with
 |some i=>i.zero.isSome&&(aoy i.size (pQ e)&&aoy i.bytes (zQ e))&&aoy (zY e).cells.size (pQ e)
 | .none=>false
theorem KA (e:ET):Ep e=true:=by cases e<;>kernel_rfl
theorem T7: ∀t r,wy t=some r->I9 Tryz.prog uu t r=true:=by
 intro t r h
 unfold wy at h
 split at h<;>first|(injection h with h;subst h;kernel_rfl)|cases h
theorem aeb: ∀t r e,wy t=some r->r.keys=some e->e= .C:=by
 intro t r e h hk
 unfold wy at h
 split at h<;>first|(injection h with h;subst h;cases hk;done)|(injection h with h;subst h;injection hk with hk;exact hk.symm)|cases h
theorem akU: ∀e cs y,T3 e cs=some y->cs.length=pQ e/\cs.all PV.isCell=true/\ ∀ (k:Nat) p,cs[k]? =some p-> ∃q,(asF e y)[k]? =some q/\p.less q:=by
 have hC: ∀ {p:PU} {l},oO p=some l-> ∃o,p= .sl (U:=UU) ET.C l o:=by
  intro p l h;unfold oO at h;split at h<;>first|(injection h with h;subst h;exact ⟨_,rfl⟩)|cases h
 have hT: ∀ {p:PU} {l},sn p=some l-> ∃o,p= .sl (U:=UU) ET.T l o:=by
  intro p l h;unfold sn at h;split at h<;>first|(injection h with h;subst h;exact ⟨_,rfl⟩)|cases h
 have hB: ∀ {p:PU} {l},wJ p=some l-> ∃o,p= .sl (U:=UU) ET.B l o:=by
  intro p l h;unfold wJ at h;split at h<;>first|(injection h with h;subst h;exact ⟨_,rfl⟩)|cases h
 intro e cs y h
 cases e
 ·have h:I4 cs=some y:=h
  unfold I4 at h
  split at h
  case h_2=>cases h
  injection h with h;subst h
  refine ⟨rfl,rfl,fun k p hp=> ?_⟩
  match k,hp with
  |0,hp=>exact ⟨_,rfl,.inl (Option.some.inj hp).symm⟩
  |1,hp=>exact ⟨_,rfl,.inl (Option.some.inj hp).symm⟩
  |k+2,hp=>simp at hp
 ·have h:I7 cs=some y:=h
  unfold I7 at h
  split at h
  case h_2=>cases h
  split at h
  case h_2=>cases h
  rename_i h1 h2 h3
  injection h with h;subst h
  obtain ⟨o1,rfl⟩:=hC h1;obtain ⟨o2,rfl⟩:=hT h2;obtain ⟨o3,rfl⟩:=hB h3
  refine ⟨rfl,rfl,fun k p hp=> ?_⟩
  match k,hp with
  |0,hp=>exact ⟨_,rfl,.inl (Option.some.inj hp).symm⟩
  |1,hp=>exact ⟨_,rfl,.inl (Option.some.inj hp).symm⟩
  |2,hp=>exact ⟨_,rfl,.inl (Option.some.inj hp).symm⟩
  |3,hp=>exact ⟨_,rfl,.inr ⟨_,_,_,(Option.some.inj hp).symm,rfl⟩⟩
  |4,hp=>exact ⟨_,rfl,.inr ⟨_,_,_,(Option.some.inj hp).symm,rfl⟩⟩
  |5,hp=>exact ⟨_,rfl,.inr ⟨_,_,_,(Option.some.inj hp).symm,rfl⟩⟩
  |k+6,hp=>simp at hp
 ·have h:I3 cs=some y:=h
  unfold I3 at h
  split at h
  case h_2=>cases h
  split at h
  case h_2=>cases h
  rename_i h1 h2
  injection h with h;subst h
  obtain ⟨o1,rfl⟩:=hC h1;obtain ⟨o2,rfl⟩:=hT h2
  refine ⟨rfl,rfl,fun k p hp=> ?_⟩
  match k,hp with
  |0,hp=>exact ⟨_,rfl,.inr ⟨_,_,_,(Option.some.inj hp).symm,rfl⟩⟩
  |1,hp=>exact ⟨_,rfl,.inr ⟨_,_,_,(Option.some.inj hp).symm,rfl⟩⟩
  |k+2,hp=>simp at hp
 ·have h:I6 cs=some y:=h
  unfold I6 at h
  split at h
  case h_2=>cases h
  injection h with h;subst h
  refine ⟨rfl,rfl,fun k p hp=> ?_⟩
  match k,hp with
  |0,hp=>exact ⟨_,rfl,.inl (Option.some.inj hp).symm⟩
  |k+1,hp=>simp at hp
 ·have h:I5 cs=some y:=h
  unfold I5 at h
  split at h
  case h_2=>cases h
  obtain ⟨o1,rfl⟩:=hC h
  refine ⟨rfl,rfl,fun k p hp=> ?_⟩
  match k,hp with
  |0,hp=>exact ⟨_,rfl,.inr ⟨_,_,_,(Option.some.inj hp).symm,rfl⟩⟩
  |k+1,hp=>simp at hp
 ·have h:rS cs=some y:=h
  unfold rS at h
  split at h
  case h_2=>cases h
  split at h
  case h_2=>cases h
  rename_i h1 h2 h3
  injection h with h;subst h
  obtain ⟨o1,rfl⟩:=hC h1;obtain ⟨o2,rfl⟩:=hT h2;obtain ⟨o3,rfl⟩:=hB h3
  refine ⟨rfl,rfl,fun k p hp=> ?_⟩
  match k,hp with
  |0,hp=>exact ⟨_,rfl,.inl (Option.some.inj hp).symm⟩
  |1,hp=>exact ⟨_,rfl,.inl (Option.some.inj hp).symm⟩
  |2,hp=>exact ⟨_,rfl,.inl (Option.some.inj hp).symm⟩
  |3,hp=>exact ⟨_,rfl,.inl (Option.some.inj hp).symm⟩
  |4,hp=>exact ⟨_,rfl,.inr ⟨_,_,_,(Option.some.inj hp).symm,rfl⟩⟩
  |5,hp=>exact ⟨_,rfl,.inr ⟨_,_,_,(Option.some.inj hp).symm,rfl⟩⟩
  |6,hp=>exact ⟨_,rfl,.inr ⟨_,_,_,(Option.some.inj hp).symm,rfl⟩⟩
  |k+7,hp=>simp at hp
 ·have h:rS cs=some y:=h
  unfold rS at h
  split at h
  case h_2=>cases h
  split at h
  case h_2=>cases h
  rename_i h1 h2 h3
  injection h with h;subst h
  obtain ⟨o1,rfl⟩:=hC h1;obtain ⟨o2,rfl⟩:=hT h2;obtain ⟨o3,rfl⟩:=hB h3
  refine ⟨rfl,rfl,fun k p hp=> ?_⟩
  match k,hp with
  |0,hp=>exact ⟨_,rfl,.inl (Option.some.inj hp).symm⟩
  |1,hp=>exact ⟨_,rfl,.inl (Option.some.inj hp).symm⟩
  |2,hp=>exact ⟨_,rfl,.inl (Option.some.inj hp).symm⟩
  |3,hp=>exact ⟨_,rfl,.inl (Option.some.inj hp).symm⟩
  |4,hp=>exact ⟨_,rfl,.inr ⟨_,_,_,(Option.some.inj hp).symm,rfl⟩⟩
  |5,hp=>exact ⟨_,rfl,.inr ⟨_,_,_,(Option.some.inj hp).symm,rfl⟩⟩
  |6,hp=>exact ⟨_,rfl,.inr ⟨_,_,_,(Option.some.inj hp).symm,rfl⟩⟩
  |k+7,hp=>simp at hp
theorem acB (e:ET): ∃i,Tryz.prog.info? (uu e)=some i/\i.zero=some (zY e)/\i.size=pQ e/\i.bytes=zQ e:=by
 have h:=KA e
 unfold Ep at h
 split at h
 ·rename_i i hi
  simp only [anZ] at h
  obtain ⟨⟨h1,h2,h3⟩,h4⟩:=h
  refine ⟨i,hi, ?_,by simpa using h2,by simpa using h3⟩
  unfold zY
  rw [hi]
  obtain ⟨z,hz⟩:=Option.isSome_iff_exists.1 h1
  simp [hz]
 ·cases h
noncomputable def LL (o:Obj):Link VV Tryz.prog where
 gblk:=[(0,o)]
 etid:=uu
 esize:=pQ
 ebytes:=zQ
 ezero:=zY
 einfo:=acB
 zsize:=fun e=>by
  have h:=KA e
  unfold Ep at h
  split at h
  ·simp only [anZ] at h
   exact by simpa using h.2
  ·cases h
 epos:=fun e=>by cases e<;>decide
 broom:=fun e n h=>by
  have h':n<=1099511627776:=h
  cases e<;>simp only [zQ,maxLen]<;>omega
 len:=fun e x=>by cases e<;>rfl
 small:=fun e=>by cases e<;>decide
 ecell':=fun e x=>by cases e<;>rfl
 toEl:=akU
 ty:=fun t r h=>T6 (T7 t r h)
 keyT:=fun t r e h hk=>by
  have he:=aeb t r e h hk
  subst he
  obtain ⟨fs,h1,h2,_,h4,h5⟩:=(T6 (T7 80 _ rfl)).isInts rfl
  exact ⟨⟨fs,h1,h2,h4,h5⟩,fun x y=>⟨_,by simp only [VV,asF,PV.eqvI];rfl⟩⟩
theorem Ax:Tryz.prog.follows .mixedOrders=true:=by kernel_rfl
theorem sw {A B:Out UU->Prop} (h: ∃out,A out/\B out): ∃out,B out/\A out:=by obtain ⟨o,a,b⟩:=h;exact ⟨o,b,a⟩
theorem ZM {S:Type} {b:Bool} {x y:Option S} {v:S} (h:(bif b then x else y)=some v):x=some v\/y=some v:=by
 cases b
 ·exact .inr h
 ·exact .inl h
end
end Go.Proofs.YtgmmefmmnakbpaaGreatDoor
namespace Go.Proofs.YtgmmefmmnakbpaaGreatDoor
open Go PI
def U32 (s:Int):Prop:=0<=s/\s<4294967296
theorem U32.nat {s:Int} (h:U32 s): ∃n:Nat,n<4294967296/\s=n:=⟨s.toNat,by have:=h.1;have:=h.2;omega,by have:=h.1;omega⟩
theorem avt {n:Nat} (h:n<4294967296):(BitVec.ofInt 32 (n:Int)).toNat=n:=by
 grind
theorem ld (n:Nat) (h:n<4294967296):su .u32 (n:Int)=n:=by
 grind [su,IntKind.bits,IntKind.signed]
theorem iR (n:Nat) (h:n<18446744073709551616):su .u64 (n:Int)=n:=by
 grind [su,IntKind.bits,IntKind.signed]
theorem alX {n:Int} (h1: -9223372036854775808<=n) (h2:n<9223372036854775808):su .i64 n=n:=by
 grind [su,IntKind.bits,IntKind.signed]
theorem sk {a b n:Nat} (h:a<2^n):a&&&b<2^n:=Nat.lt_of_le_of_lt Nat.and_le_left h
theorem lj {a b:Nat} (ha:a<4294967296) (hb:b<4294967296):bj .and .u32 (a:Int) (b:Int)=((a&&&b:Nat):Int):=by
 have h1:=avt ha;have h2:=avt hb
 simp only [bj]
 show su .u32 (((BitVec.ofInt 32 (a:Int))&&&(BitVec.ofInt 32 (b:Int))).toNat:Int)=_
 rw [BitVec.toNat_and,h1,h2]
 exact ld _ (sk (n:=32) ha)
theorem wK {a b:Nat} (ha:a<4294967296) (hb:b<4294967296):bj .or .u32 (a:Int) (b:Int)=((a|||b:Nat):Int):=by
 have h1:=avt ha;have h2:=avt hb
 simp only [bj]
 show su .u32 (((BitVec.ofInt 32 (a:Int))|||(BitVec.ofInt 32 (b:Int))).toNat:Int)=_
 rw [BitVec.toNat_or,h1,h2]
 exact ld _ (Nat.or_lt_two_pow (n:=32) ha hb)
def dL (a b:Nat):Nat:=a^^^(a&&&b)
theorem mm (a b i:Nat):(dL a b).testBit i=(a.testBit i&& !b.testBit i):=by
 grind [dL]
theorem vq {a b n:Nat} (h:a<2^n):dL a b<2^n:=Nat.xor_lt_two_pow h (sk h)
theorem C_ {a b:Nat} (ha:a<4294967296) (hb:b<4294967296):bj .andNot .u32 (a:Int) (b:Int)=((dL a b:Nat):Int):=by
 have h1:=avt ha;have h2:=avt hb
 simp only [bj]
 show su .u32 (((BitVec.ofInt 32 (a:Int))&&& ~~~(BitVec.ofInt 32 (b:Int))).toNat:Int)=_
 have e:((BitVec.ofInt 32 (a:Int))&&& ~~~(BitVec.ofInt 32 (b:Int))).toNat=dL a b:=by
  apply Nat.eq_of_testBit_eq
  intro i
  rw [mm,BitVec.toNat_and,Nat.testBit_and,h1]
  by_cases hi:i<32
  ·grind
  ·have:a.testBit i=false:=Nat.testBit_lt_two_pow (Nat.lt_of_lt_of_le ha (by exact Nat.pow_le_pow_right (n:=2) (by decide) (show 32<=i by omega)))
   grind
 rw [e]
 exact ld _ (vq (n:=32) ha)
theorem aY {α:Type} (p:Prop) [Decidable p] (x y:α):ab (decide p) x y=if p then x else y:=by
 grind [ae,n3]
theorem cH {α:Type} (c:Bool) (x y:α):ab c x y=if c=true then x else y:=by
 grind [n3,ae]
abbrev Fu (k:Nat):Prop:=4294967296<=k
theorem ag {R S:Type} {k:Nat} (h:Fu k) (f:(R->OS S)->OS S) (g:R->OS S):aa k f g=f g:=ZV (by omega) f g
theorem J5 {S:Type} {n m:Nat} (h:n+m<=1099511627776) (f:Unit->OS S):sf (aw 1099511627776 n m) f=f ():=by
 grind [aw]
theorem apy {α:Type} {l p r:List α} {x:α} (h:l=p++x::r) (hl:l.length<4611686018427387904):
  decide ((p.length:Int)<(l.length:Int))=true/\af l (p.length:Int)=some x/\su .i64 ((p.length:Int)+1)=((p++[x]).length:Int)/\l=(p++[x])++r:=by
 subst h
 rw [List.length_append,aq5] at hl
 refine ⟨decide_eq_true (by grind), ?_, ?_,by simp⟩
 all_goals grind [af,su,IntKind.bits]
theorem akb {α:Type} {l p:List α} (h:l=p++[]):decide ((p.length:Int)<(l.length:Int))=false:=by
 grind
theorem amr {n m:Nat} (h:n<m): ∃q,m=q+1/\n<=q:=⟨m-1,by omega,by omega⟩
theorem fN {S:Type} (p:Prop) [Decidable p] (h:p) (f:Unit->OS S):sf (bR p) f=f ():=by simp [bR,h]
theorem pU {α:Type} (l:List α) (i:Nat):af l (i:Int)=l[i]? :=by rfl
end Go.Proofs.YtgmmefmmnakbpaaGreatDoor
namespace Go.Proofs.YtgmmefmmnakbpaaGreatDoor
open Go PI
set_option maxRecDepth 100000
noncomputable section
variable {S:Type}
def aub (k:Nat) (kind:Int) (kids:LT) (I:Int×Int×BA×LT->OS S):OS S:=I (kind,0,alH,kids)
def gI (k:Nat) (kind kid:Int) (I:Int×Int->OS S):OS S:=ab (kind==4) (ab (kid==1) (I (1,0)) (I (0,0))) (ab (kind==7) (ab (kid==1) (I (1,0)) (I (0,0))) (ab (kind==5) (ab (kid==0) (I (1,0)) (I (0,0))) (ab (kind==22) (ab (kid==0) (I (1,0)) (I (0,0))) (ab (kind==27) (ab (kid==0) (I (1,0)) (I (0,0))) (ab (kind==11) (ab (kid==0) (I (0,1)) (I (0,0))) (ab (kind==12) (ab (kid==0) (I (0,1)) (I (0,0))) (ab (kind==14) (ab (kid==0) (I (0,1)) (I (0,0))) (I (0,0)))))))))
abbrev du (S:Type):=Tm->Int->(Bool->OS S)->OS S
def uk (hd:du S) (k:Nat) (a_k:Tm) (p p' c0:Int) (I:Bool->OS S):OS S:=hd (ac a_k) (su .i64 (c0-1)) fun r1=>I r1
def yi (hd:du S) (k:Nat) (I:Bool->OS S) (c0:Int) (t:Tm) (v42:Int) (x4:(Br Tm)) (more9:Int) (rec1:Int->Int->OS S) (rec2:Int->OS S) (v49:Int):OS S:=ab (decide ((v49:Int)<(x4.kids.length:Int))) (sf (af x4.kids v49) fun x5=>aa k (uk hd k (ac x5) 0 more9 c0) fun r6=>ab (!r6) (I false) (rec2 (su .i64 (v49+1)))) (rec1 (su .i64 (v42+1)) more9)
def anh (hd:du S) (k:Nat) (I:Bool->OS S) (rec1:Int->Int->OS S) (c0:Int) (t:Tm) (v42:Int) (x4:(Br Tm)) (more9:Int):Nat->Int->OS S
 |0=>fun _=> .none
 |m+1=>fun v49=>yi hd k I c0 t v42 x4 more9 rec1 (anh hd k I rec1 c0 t v42 x4 more9 m) v49
def tp (hd:du S) (k:Nat) (I:Bool->OS S) (c0:Int) (t:Tm) (J2:Int->(Br Tm)->Int->Int->OS S) (rec1:Int->Int->OS S) (v42 more9:Int):OS S:=ab (decide ((v42:Int)<(t.sys.length:Int))) (sf (af t.sys v42) fun x4=>J2 v42 x4 more9 0) (I true)
def jp (hd:du S) (k:Nat) (I:Bool->OS S) (c0:Int) (t:Tm):Nat->Int->Int->OS S
 |0=>fun _ _=> .none
 |m+1=>fun v42 more9=>tp hd k I c0 t (fun v42 x4 more9 v49=>anh hd k I (jp hd k I c0 t m) c0 t v42 x4 more9 k v49) (jp hd k I c0 t m) v42 more9
def tn (hd:du S) (k:Nat) (I:Bool->OS S) (c0:Int) (t:Tm) (J1:Int->Int->OS S) (rec0:Int->OS S) (v17:Int):OS S:=ab (decide ((v17:Int)<(t.kids.length:Int))) (sf (af t.kids v17) fun x1=>aa k (gI k t.kind v17) fun r2=>aa k (uk hd k (ac x1) r2.1 r2.2 c0) fun r3=>ab (!r3) (I false) (rec0 (su .i64 (v17+1)))) (ab (t.kind==15) (J1 0 1) (J1 0 0))
def qS (hd:du S) (k:Nat) (I:Bool->OS S) (c0:Int) (t:Tm):Nat->Int->OS S
 |0=>fun _=> .none
 |m+1=>fun v17=>tn hd k I c0 t (fun v42 more9=>jp hd k I c0 t k v42 more9) (qS hd k I c0 t m) v17
def IV (hd:du S) (k:Nat) (I:Bool->OS S) (J0:Int->OS S) (t:Tm) (c0:Int):OS S:=J0 0
def DX (hd:du S) (k:Nat) (t:Tm) (c0:Int) (I:Bool->OS S):OS S:=IV hd k I (fun v17=>qS hd k I c0 t k v17) t c0
def TV (hd:du S) (k:Nat) (I:Bool->OS S) (t:Tm) (left:Int):OS S:=ab (decide ((left:Int)>0)) (aa k (DX hd k (ac t) left) fun r1=>I r1) (I false)
def jf:Nat->Tm->Int->(Bool->OS S)->OS S
 |0=>fun _ _ _=> .none
 |k+1=>fun t left I=>TV (jf k) k I t left
abbrev dt (S:Type):=Tm->Int->(Bool×Int->OS S)->OS S
def pB (hd:dt S) (k:Nat) (t:Tm) (c0:Int) (I:Bool×Int->OS S):OS S:=ab (decide ((su .i64 (c0-1):Int)>=0)) (hd (ac t) (su .i64 (c0-1)) fun r1=>I (r1.1,r1.2)) (I (false,su .i64 (c0-1)))
def ul (hd:dt S) (k:Nat) (a_k:Tm) (p p' c1:Int) (I:Bool×Int->OS S):OS S:=aa k (pB hd k (ac a_k) c1) fun r1=>I (r1.1,r1.2)
def yg (hd:dt S) (k:Nat) (I:Bool×Int->OS S) (t:Tm) (v42:Int) (x4:(Br Tm)) (more9:Int) (rec1:Int->Int->Int->OS S) (rec2:Int->Int->OS S) (e1_0'' v49:Int):OS S:=ab (decide ((v49:Int)<(x4.kids.length:Int))) (sf (af x4.kids v49) fun x5=>aa k (ul hd k (ac x5) 0 more9 e1_0'') fun r6=>ab (!r6.1) (I (false,r6.2)) (rec2 r6.2 (su .i64 (v49+1)))) (rec1 e1_0'' (su .i64 (v42+1)) more9)
def kL (hd:dt S) (k:Nat) (I:Bool×Int->OS S) (rec1:Int->Int->Int->OS S) (t:Tm) (v42:Int) (x4:(Br Tm)) (more9:Int):Nat->Int->Int->OS S
 |0=>fun _ _=> .none
 |m+1=>fun e1_0'' v49=>yg hd k I t v42 x4 more9 rec1 (kL hd k I rec1 t v42 x4 more9 m) e1_0'' v49
def tj (hd:dt S) (k:Nat) (I:Bool×Int->OS S) (t:Tm) (J2:Int->(Br Tm)->Int->Int->Int->OS S) (rec1:Int->Int->Int->OS S) (e1_0' v42 more9:Int):OS S:=ab (decide ((v42:Int)<(t.sys.length:Int))) (sf (af t.sys v42) fun x4=>J2 v42 x4 more9 e1_0' 0) (I (true,e1_0'))
def atY (hd:dt S) (k:Nat) (I:Bool×Int->OS S) (t:Tm):Nat->Int->Int->Int->OS S
 |0=>fun _ _ _=> .none
 |m+1=>fun e1_0' v42 more9=>tj hd k I t (fun v42 x4 more9 e1_0'' v49=>kL hd k I (atY hd k I t m) t v42 x4 more9 k e1_0'' v49) (atY hd k I t m) e1_0' v42 more9
def ti (hd:dt S) (k:Nat) (I:Bool×Int->OS S) (t:Tm) (J1:Int->Int->Int->OS S) (rec0:Int->Int->OS S) (arm v17:Int):OS S:=ab (decide ((v17:Int)<(t.kids.length:Int))) (sf (af t.kids v17) fun x1=>aa k (gI k t.kind v17) fun r2=>aa k (ul hd k (ac x1) r2.1 r2.2 arm) fun r3=>ab (!r3.1) (I (false,r3.2)) (rec0 r3.2 (su .i64 (v17+1)))) (ab (t.kind==15) (J1 arm 0 1) (J1 arm 0 0))
def nY (hd:dt S) (k:Nat) (I:Bool×Int->OS S) (t:Tm):Nat->Int->Int->OS S
 |0=>fun _ _=> .none
 |m+1=>fun arm v17=>ti hd k I t (fun e1_0' v42 more9=>atY hd k I t k e1_0' v42 more9) (nY hd k I t m) arm v17
def IT (hd:dt S) (k:Nat) (I:Bool×Int->OS S) (J0:Int->Int->OS S) (t:Tm) (c1:Int):OS S:=J0 c1 0
def atf:Nat->Tm->Int->(Bool×Int->OS S)->OS S
 |0=>fun _ _ _=> .none
 |k+1=>fun t c1 I=>IT (atf k) k I (fun arm v17=>nY (atf k) k I t k arm v17) t c1
def zE (k:Nat) (t:Tm) (most:Int) (I:Bool->OS S):OS S:=aa k (pB (atf k) k (ac t) most) fun r1=>I r1.1
def zD (k:Nat) (t:Tm) (I:Int->OS S):OS S:=jf k (ac t) 200 fun r1=>ab (!r1) (I 62) (aa k (zE k (ac t) 20000) fun r2=>ab (!r2) (I 221) (I 0))
def zA (k:Nat) (kind:Int) (I:Int->OS S):OS S:=ab (kind==1) (I 0) (ab (kind==2) (I 0) (ab (kind==3) (I 0) (ab (kind==19) (I 0) (ab (kind==20) (I 0) (ab (kind==24) (I 0) (ab (kind==25) (I 0) (ab (kind==21) (I 0) (ab (kind==5) (I 1) (ab (kind==9) (I 1) (ab (kind==10) (I 1) (ab (kind==23) (I 1) (ab (kind==12) (I 1) (ab (kind==16) (I 1) (ab (kind==17) (I 1) (ab (kind==18) (I 1) (ab (kind==26) (I 1) (ab (kind==4) (I 2) (ab (kind==7) (I 2) (ab (kind==6) (I 2) (ab (kind==8) (I 2) (ab (kind==14) (I 2) (ab (kind==15) (I 2) (ab (kind==28) (I 2) (ab (kind==11) (I 3) (ab (kind==13) (I 3) (ab (kind==22) (I 4) (ab (kind==27) (I 5) (I (-1)))))))))))))))))))))))))))))
def lJ (k:Nat) (kind:Int) (I:Int->OS S):OS S:=ab (kind==15) (I 1) (ab (kind==17) (I 1) (ab (kind==18) (I 1) (ab (kind==16) (I 2) (I 0))))
def Dk (k:Nat) (I:Bool->OS S) (s:BA) (v8:Int) (x1:UInt8) (rec0:Int->OS S) (letter5:Bool):OS S:=ab (!letter5) (ab (v8==0) (I false) (ab (decide (((x1.toNat:Int):Int)<48)) (I false) (ab (decide (((x1.toNat:Int):Int)>57)) (I false) (rec0 (su .i64 (v8+1)))))) (rec0 (su .i64 (v8+1)))
def Aq (k:Nat) (I:Bool->OS S) (rec0:Int->OS S) (s:BA) (v8:Int) (x1:UInt8):Nat->Bool->OS S
 |0=>fun _=> .none
 |_+1=>fun letter5=>Dk k I s v8 x1 rec0 letter5
def tv (k:Nat) (I:Bool->OS S) (s:BA) (J1:Int->UInt8->Bool->OS S) (rec0:Int->OS S) (v8:Int):OS S:=ab (decide ((v8:Int)<(s.size:Int))) (sf (af s.data.toList v8) fun x1=>ab (decide (((x1.toNat:Int):Int)>=97)) (ab (decide (((x1.toNat:Int):Int)<=122)) (J1 v8 x1 true) (ab (decide (((x1.toNat:Int):Int)>=65)) (ab (decide (((x1.toNat:Int):Int)<=90)) (J1 v8 x1 true) (J1 v8 x1 ((x1.toNat:Int)==95))) (J1 v8 x1 ((x1.toNat:Int)==95)))) (ab (decide (((x1.toNat:Int):Int)>=65)) (ab (decide (((x1.toNat:Int):Int)<=90)) (J1 v8 x1 true) (J1 v8 x1 ((x1.toNat:Int)==95))) (J1 v8 x1 ((x1.toNat:Int)==95)))) (I (!(s==alH)))
def n7 (k:Nat) (I:Bool->OS S) (s:BA):Nat->Int->OS S
 |0=>fun _=> .none
 |m+1=>fun v8=>tv k I s (fun v8 x1 letter5=>Aq k I (n7 k I s m) s v8 x1 k letter5) (n7 k I s m) v8
def IY (k:Nat) (I:Bool->OS S) (J0:Int->OS S) (s:BA):OS S:=J0 0
def zC (k:Nat) (s:BA) (I:Bool->OS S):OS S:=IY k I (fun v8=>n7 k I s k v8) s
def pm (k:Nat) (s:Int) (I:Bool->OS S):OS S:=I ((bj .andNot .u32 s 16777215)==0)
def tC (k:Nat) (c:Cl) (I:Bool->OS S):OS S:=aa k (pm k c.pos) fun r1=>ab (r1) (aa k (pm k c.neg) fun r2=>I r2) (I false)
def pb (k:Nat) (a b:Cl) (I:Cl->OS S):OS S:=I (Cl.mk (bj .or .u32 a.pos b.pos) (bj .or .u32 a.neg b.neg))
def yA (k:Nat) (a b:Cl) (I:Bool->OS S):OS S:=aa k (pb k a b) fun r1=>I ((r1.pos==a.pos)&&((r1.neg==a.neg)&&true))
def yC (k:Nat) (d c0:Cl) (I:Bool->OS S):OS S:=ab (!((c0.pos==d.pos)&&((c0.neg==d.neg)&&true))) (aa k (yA k c0 d) fun r1=>I r1) (I false)
def yc (k:Nat) (I:Int->OS S) (c0:Cl) (s:LC) (rec0:Int->OS S) (v8:Int):OS S:=ab (decide ((v8:Int)<(s.length:Int))) (sf (af s v8) fun x1=>aa k (yC k x1 c0) fun r2=>ab (r2) (I v8) (rec0 (su .i64 (v8+1)))) (I (-1))
def qO (k:Nat) (I:Int->OS S) (c0:Cl) (s:LC):Nat->Int->OS S
 |0=>fun _=> .none
 |m+1=>fun v8=>yc k I c0 s (qO k I c0 s m) v8
def IM (k:Nat) (I:Int->OS S) (J0:Int->OS S) (s:LC) (c0:Cl):OS S:=J0 0
def DV (k:Nat) (s:LC) (c0:Cl) (I:Int->OS S):OS S:=IM k I (fun v8=>qO k I c0 s k v8) s c0
def DT (k:Nat) (s:LC) (c0:Cl) (I:Bool->OS S):OS S:=aa k (DV k s c0) fun r1=>I (decide ((r1:Int)>=0))
def yB (k:Nat) (c:Cl) (c0:LC) (I:Bool->OS S):OS S:=aa k (DT k c0 c) fun r1=>I r1
def wM (k:Nat) (I:LC×Int->OS S) (b5_0:LC) (rec1:Int->(LC)->OS S) (v36:Int) (kept9:LC):OS S:=ab (decide ((v36:Int)<(b5_0.length:Int))) (sf (af b5_0 v36) fun x4=>aa k (yB k x4 b5_0) fun r5=>ab (!r5) (sf (aw 1099511627776 kept9.length [x4].length) fun x6=>rec1 (su .i64 (v36+1)) (kept9++[x4])) (rec1 (su .i64 (v36+1)) kept9)) (ab (decide (((kept9.length:Int):Int)>64)) (I (([]:LC),3)) (I (sortCl kept9,0)))
def nz (k:Nat) (I:LC×Int->OS S) (b5_0:LC):Nat->Int->(LC)->OS S
 |0=>fun _ _=> .none
 |m+1=>fun v36 kept9=>wM k I b5_0 (nz k I b5_0 m) v36 kept9
def awk (k:Nat) (I:LC×Int->OS S) (l:LC) (J1:(LC)->Int->(LC)->OS S) (rec0:(List (Cl×Bool))->(LC)->Int->OS S) (asM:List (Cl×Bool)) (b5_0:LC) (v15:Int):OS S:=ab (decide ((v15:Int)<(l.length:Int))) (sf (af l v15) fun x1=>aa k (tC k x1) fun r2=>ab (!r2) (I (([]:LC),2)) (ab (!((dW VV ET.C asM x1).getD false)) (sf (aw 1099511627776 b5_0.length [x1].length) fun x3=>rec0 (fz VV ET.C asM x1 true) (b5_0++[x1]) (su .i64 (v15+1))) (rec0 asM b5_0 (su .i64 (v15+1))))) (J1 b5_0 0 ([]:LC))
def pZ (k:Nat) (I:LC×Int->OS S) (l:LC):Nat->(List (Cl×Bool))->(LC)->Int->OS S
 |0=>fun _ _ _=> .none
 |m+1=>fun asM b5_0 v15=>awk k I l (fun b5_0 v36 kept9=>nz k I b5_0 k v36 kept9) (pZ k I l m) asM b5_0 v15
def Hw (k:Nat) (I:LC×Int->OS S) (J0:(List (Cl×Bool))->(LC)->Int->OS S) (l:LC):OS S:=J0 ([]:List (Cl×Bool)) ([]:LC) 0
def gy (k:Nat) (l:LC) (I:LC×Int->OS S):OS S:=Hw k I (fun asM b5_0 v15=>pZ k I l k asM b5_0 v15) l
def yb (k:Nat) (I:Bool->OS S) (s1 s2:LC) (rec0:Int->OS S) (v13:Int):OS S:=ab (decide ((v13:Int)<(s1.length:Int))) (sf (af s1 v13) fun x1=>sf (af s2 v13) fun x2=>ab (!((x1.pos==x2.pos)&&((x1.neg==x2.neg)&&true))) (I false) (rec0 (su .i64 (v13+1)))) (I true)
def qN (k:Nat) (I:Bool->OS S) (s1 s2:LC):Nat->Int->OS S
 |0=>fun _=> .none
 |m+1=>fun v13=>yb k I s1 s2 (qN k I s1 s2 m) v13
def IL (k:Nat) (I:Bool->OS S) (J0:Int->OS S) (s1 s2:LC):OS S:=ab (!((s1.length:Int)==(s2.length:Int))) (I false) (J0 0)
def zz (k:Nat) (s1 s2:LC) (I:Bool->OS S):OS S:=IL k I (fun v13=>qN k I s1 s2 k v13) s1 s2
def hY (k:Nat) (f:LC) (I:Bool->OS S):OS S:=aa k (gy k f) fun r1=>ab (r1.2==0) (aa k (zz k r1.1 f) fun r2=>I r2) (I false)
def nd (k:Nat) (i:Int) (I:Bool->OS S):OS S:=ab (decide ((i:Int)>=0)) (I (decide ((i:Int)<24))) (I false)
def jX (k:Nat) (s i:Int) (I:Int->OS S):OS S:=aa k (nd k i) fun r1=>ab (!r1) (I (bj .and .u32 s 16777215)) (sf (bR (0<=(su .u64 i))) fun x2=>I (bj .andNot .u32 (bj .and .u32 s 16777215) (su .u32 (1*2^min (arM (su .u64 i)) 32))))
def wY (k:Nat) (I:Int->OS S) (f:LC) (rec0:Int->Int->OS S) (s3 v8:Int):OS S:=ab (decide ((v8:Int)<(f.length:Int))) (sf (af f v8) fun x1=>rec0 (bj .or .u32 s3 (bj .or .u32 x1.pos x1.neg)) (su .i64 (v8+1))) (aa k (jX k s3 (-1)) fun r2=>I r2)
def qb (k:Nat) (I:Int->OS S) (f:LC):Nat->Int->Int->OS S
 |0=>fun _ _=> .none
 |m+1=>fun s3 v8=>wY k I f (qb k I f m) s3 v8
def HL (k:Nat) (I:Int->OS S) (J0:Int->Int->OS S) (f:LC):OS S:=J0 0 0
def jc (k:Nat) (f:LC) (I:Int->OS S):OS S:=HL k I (fun s3 v8=>qb k I f k s3 v8) f
def lK (k:Nat) (f:LC) (dims:Int) (I:Bool->OS S):OS S:=ab (decide ((dims:Int)>=24)) (I true) (aa k (jc k f) fun r1=>sf (bR (0<=(su .u64 dims))) fun x2=>I ((Int.fdiv r1 (2^min (arM (su .u64 dims)) 32))==0))
def tB (k:Nat) (c:Cl) (I:Bool->OS S):OS S:=I (!((bj .and .u32 c.pos c.neg)==0))
def yd (k:Nat) (I:Int->OS S) (s:LC) (rec0:Int->OS S) (v8:Int):OS S:=ab (decide ((v8:Int)<(s.length:Int))) (sf (af s v8) fun x1=>aa k (tB k x1) fun r2=>ab (r2) (I v8) (rec0 (su .i64 (v8+1)))) (I (-1))
def qP (k:Nat) (I:Int->OS S) (s:LC):Nat->Int->OS S
 |0=>fun _=> .none
 |m+1=>fun v8=>yd k I s (qP k I s m) v8
def IN (k:Nat) (I:Int->OS S) (J0:Int->OS S) (s:LC):OS S:=J0 0
def DW (k:Nat) (s:LC) (I:Int->OS S):OS S:=IN k I (fun v8=>qP k I s k v8) s
def DU (k:Nat) (s:LC) (I:Bool->OS S):OS S:=aa k (DW k s) fun r1=>I (decide ((r1:Int)>=0))
def pd (k:Nat) (f:LC) (I:Bool->OS S):OS S:=aa k (hY k f) fun r1=>ab (r1) (aa k (DU k f) fun r2=>I (!r2)) (I false)
def yl (k:Nat) (I:Bool->OS S) (t:Tm) (dims:Int) (rec1:Int->OS S) (v109:Int):OS S:=ab (decide ((v109:Int)<(t.sys.length:Int))) (sf (af t.sys v109) fun x12=>aa k (lJ k t.kind) fun r13=>ab (!((x12.kids.length:Int)==r13)) (I false) (aa k (pd k x12.face) fun r14=>ab (!r14) (I false) (aa k (lK k x12.face dims) fun r15=>ab (!r15) (I false) (rec1 (su .i64 (v109+1)))))) (I ((t.r.length:Int)==0))
def kO (k:Nat) (I:Bool->OS S) (t:Tm) (dims:Int):Nat->Int->OS S
 |0=>fun _=> .none
 |m+1=>fun v109=>yl k I t dims (kO k I t dims m) v109
def tw (k:Nat) (I:Bool->OS S) (t:Tm) (vars dims:Int) (J1:Int->OS S):OS S:=ab (t.kind==1) (ab ((t.r.length:Int)==0) (ab (decide ((t.n:Int)>=0)) (ab (decide ((vars:Int)<0)) (I true) (I (decide ((t.n:Int)<vars)))) (I false)) (I false)) (ab (t.kind==2) (ab ((t.r.length:Int)==0) (aa k (zC k t.name) fun r3=>I r3) (I false)) (ab (t.kind==13) (aa k (hY k t.r) fun r4=>ab (r4) (aa k (lK k t.r dims) fun r5=>I r5) (I false)) (ab (t.kind==21) (aa k (hY k t.r) fun r6=>ab (r6) (aa k (lK k t.r dims) fun r7=>I r7) (I false)) (ab (t.kind==26) (aa k (hY k t.r) fun r8=>ab (r8) (aa k (lK k t.r dims) fun r9=>I r9) (I false)) (ab (t.kind==14) (aa k (pd k t.r) fun r10=>ab (r10) (aa k (lK k t.r dims) fun r11=>I r11) (I false)) (J1 0))))))
def Ar (k:Nat) (I:Bool->OS S) (t:Tm) (vars dims:Int):Nat->OS S
 |0=> .none
 |_+1=>tw k I t vars dims (fun v109=>kO k I t dims k v109)
def IZ (k:Nat) (I:Bool->OS S) (J0:OS S) (t:Tm) (vars dims:Int):OS S:=aa k (zA k t.kind) fun r1=>ab (!(r1==(t.kids.length:Int))) (I false) (ab (!(t.kind==1)) (ab (!(t.n==0)) (I false) (ab (!(t.kind==2)) (ab (!(t.name==alH)) (I false) (aa k (lJ k t.kind) fun r2=>ab (r2==0) (ab (decide (((t.sys.length:Int):Int)>0)) (I false) (J0)) (J0))) (aa k (lJ k t.kind) fun r16=>ab (r16==0) (ab (decide (((t.sys.length:Int):Int)>0)) (I false) (J0)) (J0)))) (ab (!(t.kind==2)) (ab (!(t.name==alH)) (I false) (aa k (lJ k t.kind) fun r17=>ab (r17==0) (ab (decide (((t.sys.length:Int):Int)>0)) (I false) (J0)) (J0))) (aa k (lJ k t.kind) fun r18=>ab (r18==0) (ab (decide (((t.sys.length:Int):Int)>0)) (I false) (J0)) (J0))))
def uj (k:Nat) (t:Tm) (vars dims:Int) (I:Bool->OS S):OS S:=IZ k I (Ar k I t vars dims k) t vars dims
abbrev dr (S:Type):=Tm->Int->Int->Bool->(Bool->OS S)->OS S
def uh (hd:dr S) (k:Nat) (a_k:Tm) (v d c0 c1:Int) (c2:Bool) (I:Bool->OS S):OS S:=ab (decide ((c0:Int)<0)) (hd (ac a_k) (su .i64 (c0+0)) (su .i64 (c1+d)) c2 fun r1=>I r1) (hd (ac a_k) (su .i64 (c0+v)) (su .i64 (c1+d)) c2 fun r2=>I r2)
def yh (hd:dr S) (k:Nat) (I:Bool->OS S) (c0 c1:Int) (c2:Bool) (t:Tm) (v42:Int) (x4:(Br Tm)) (more9:Int) (rec1:Int->Int->OS S) (rec2:Int->OS S) (v49:Int):OS S:=ab (decide ((v49:Int)<(x4.kids.length:Int))) (sf (af x4.kids v49) fun x5=>aa k (uh hd k (ac x5) 0 more9 c0 c1 c2) fun r6=>ab (!r6) (I false) (rec2 (su .i64 (v49+1)))) (rec1 (su .i64 (v42+1)) more9)
def mi (hd:dr S) (k:Nat) (I:Bool->OS S) (rec1:Int->Int->OS S) (c0 c1:Int) (c2:Bool) (t:Tm) (v42:Int) (x4:(Br Tm)) (more9:Int):Nat->Int->OS S
 |0=>fun _=> .none
 |m+1=>fun v49=>yh hd k I c0 c1 c2 t v42 x4 more9 rec1 (mi hd k I rec1 c0 c1 c2 t v42 x4 more9 m) v49
def tl (hd:dr S) (k:Nat) (I:Bool->OS S) (c0 c1:Int) (c2:Bool) (t:Tm) (J2:Int->(Br Tm)->Int->Int->OS S) (rec1:Int->Int->OS S) (v42 more9:Int):OS S:=ab (decide ((v42:Int)<(t.sys.length:Int))) (sf (af t.sys v42) fun x4=>J2 v42 x4 more9 0) (I true)
def iC (hd:dr S) (k:Nat) (I:Bool->OS S) (c0 c1:Int) (c2:Bool) (t:Tm):Nat->Int->Int->OS S
 |0=>fun _ _=> .none
 |m+1=>fun v42 more9=>tl hd k I c0 c1 c2 t (fun v42 x4 more9 v49=>mi hd k I (iC hd k I c0 c1 c2 t m) c0 c1 c2 t v42 x4 more9 k v49) (iC hd k I c0 c1 c2 t m) v42 more9
def tk (hd:dr S) (k:Nat) (I:Bool->OS S) (c0 c1:Int) (c2:Bool) (t:Tm) (J1:Int->Int->OS S) (rec0:Int->OS S) (v17:Int):OS S:=ab (decide ((v17:Int)<(t.kids.length:Int))) (sf (af t.kids v17) fun x1=>aa k (gI k t.kind v17) fun r2=>aa k (uh hd k (ac x1) r2.1 r2.2 c0 c1 c2) fun r3=>ab (!r3) (I false) (rec0 (su .i64 (v17+1)))) (ab (t.kind==15) (J1 0 1) (J1 0 0))
def nZ (hd:dr S) (k:Nat) (I:Bool->OS S) (c0 c1:Int) (c2:Bool) (t:Tm):Nat->Int->OS S
 |0=>fun _=> .none
 |m+1=>fun v17=>tk hd k I c0 c1 c2 t (fun v42 more9=>iC hd k I c0 c1 c2 t k v42 more9) (nZ hd k I c0 c1 c2 t m) v17
def IU (hd:dr S) (k:Nat) (I:Bool->OS S) (J0:Int->OS S) (t:Tm) (c0 c1:Int) (c2:Bool):OS S:=J0 0
def zB (hd:dr S) (k:Nat) (t:Tm) (c0 c1:Int) (c2:Bool) (I:Bool->OS S):OS S:=IU hd k I (fun v17=>nZ hd k I c0 c1 c2 t k v17) t c0 c1 c2
def TT (hd:dr S) (k:Nat) (I:Bool->OS S) (t:Tm) (vars dims:Int) (bound:Bool):OS S:=ab (bound) (ab (decide ((dims:Int)>24)) (I false) (aa k (uj k (ac t) vars dims) fun r1=>ab (!r1) (I false) (aa k (zB hd k (ac t) vars dims bound) fun r2=>I r2))) (aa k (uj k (ac t) vars dims) fun r3=>ab (!r3) (I false) (aa k (zB hd k (ac t) vars dims bound) fun r4=>I r4))
def ic:Nat->Tm->Int->Int->Bool->(Bool->OS S)->OS S
 |0=>fun _ _ _ _ _=> .none
 |k+1=>fun t vars dims bound I=>TT (ic k) k I t vars dims bound
def asi (k:Nat) (t:Tm) (I:Int->OS S):OS S:=aa k (zD k (ac t)) fun r1=>ab (!(r1==0)) (I r1) (ic k (ac t) (-1) 24 false fun r2=>ab (!r2) (I 100) (I 0))
abbrev eP (S:Type):=Tm->(Tm->OS S)->OS S
def yf (hd:eP S) (k:Nat) (I:LT->OS S) (l:LT) (rec0:(LT)->Int->OS S) (out3:LT) (v8:Int):OS S:=ab (decide ((v8:Int)<(l.length:Int))) (sf (af l v8) fun x1=>hd (ac x1) fun r2=>sf (aw 1099511627776 out3.length [(ac r2)].length) fun x3=>rec0 (out3++[(ac r2)]) (su .i64 (v8+1))) (I out3)
def av5 (hd:eP S) (k:Nat) (I:LT->OS S) (l:LT):Nat->(LT)->Int->OS S
 |0=>fun _ _=> .none
 |m+1=>fun out3 v8=>yf hd k I l (av5 hd k I l m) out3 v8
def IS (hd:eP S) (k:Nat) (I:LT->OS S) (J0:(LT)->Int->OS S) (l:LT):OS S:=J0 ([]:LT) 0
def ui (hd:eP S) (k:Nat) (l:LT) (I:LT->OS S):OS S:=IS hd k I (fun out3 v8=>av5 hd k I l k out3 v8) l
def ye (hd:eP S) (k:Nat) (I:Tm->OS S) (t:Tm) (r1:LC) (r2:LT) (rec0:(LB)->Int->OS S) (b3_5:LB) (v22:Int):OS S:=ab (decide ((v22:Int)<(t.sys.length:Int))) (sf (af t.sys v22) fun x3=>rj x3.face fun r4=>aa k (ui hd k x3.kids) fun r5=>sf (aw 1099511627776 b3_5.length [(Br.mk r4 r5)].length) fun x6=>rec0 (b3_5++[(Br.mk r4 r5)]) (su .i64 (v22+1))) (I (Tm.mk t.kind t.n t.name r1 r2 b3_5))
def qQ (hd:eP S) (k:Nat) (I:Tm->OS S) (t:Tm) (r1:LC) (r2:LT):Nat->(LB)->Int->OS S
 |0=>fun _ _=> .none
 |m+1=>fun b3_5 v22=>ye hd k I t r1 r2 (qQ hd k I t r1 r2 m) b3_5 v22
def IP (hd:eP S) (k:Nat) (I:Tm->OS S) (J0:(LC)->(LT)->(LB)->Int->OS S) (t:Tm):OS S:=rj t.r fun r1=>aa k (ui hd k t.kids) fun r2=>J0 r1 r2 ([]:LB) 0
def dJ:Nat->Tm->(Tm->OS S)->OS S
 |0=>fun _ _=> .none
 |k+1=>fun t I=>IP (dJ k) k I (fun r1 r2 b3_5 v22=>qQ (dJ k) k I t r1 r2 k b3_5 v22) t
def dG (k:Nat) (c0:Int) (I:Bool->OS S):OS S:=I (c0==0)
abbrev dq (S:Type):=Tm->(Int->OS S)->OS S
def ug (hd:dq S) (k:Nat) (a_k:Tm) (p p' c0:Int) (I:Bool×Int->OS S):OS S:=hd (ac a_k) fun r1=>I (true,su .i64 (c0+r1))
def yj (hd:dq S) (k:Nat) (I:Bool×Int->OS S) (t:Tm) (v42:Int) (x4:(Br Tm)) (more9:Int) (rec1:Int->Int->Int->OS S) (rec2:Int->Int->OS S) (e0_0'' v49:Int):OS S:=ab (decide ((v49:Int)<(x4.kids.length:Int))) (sf (af x4.kids v49) fun x5=>aa k (ug hd k (ac x5) 0 more9 e0_0'') fun r6=>ab (!r6.1) (I (false,r6.2)) (rec2 r6.2 (su .i64 (v49+1)))) (rec1 e0_0'' (su .i64 (v42+1)) more9)
def n4 (hd:dq S) (k:Nat) (I:Bool×Int->OS S) (rec1:Int->Int->Int->OS S) (t:Tm) (v42:Int) (x4:(Br Tm)) (more9:Int):Nat->Int->Int->OS S
 |0=>fun _ _=> .none
 |m+1=>fun e0_0'' v49=>yj hd k I t v42 x4 more9 rec1 (n4 hd k I rec1 t v42 x4 more9 m) e0_0'' v49
def tr (hd:dq S) (k:Nat) (I:Bool×Int->OS S) (t:Tm) (J2:Int->(Br Tm)->Int->Int->Int->OS S) (rec1:Int->Int->Int->OS S) (e0_0' v42 more9:Int):OS S:=ab (decide ((v42:Int)<(t.sys.length:Int))) (sf (af t.sys v42) fun x4=>J2 v42 x4 more9 e0_0' 0) (I (true,e0_0'))
def kM (hd:dq S) (k:Nat) (I:Bool×Int->OS S) (t:Tm):Nat->Int->Int->Int->OS S
 |0=>fun _ _ _=> .none
 |m+1=>fun e0_0' v42 more9=>tr hd k I t (fun v42 x4 more9 e0_0'' v49=>n4 hd k I (kM hd k I t m) t v42 x4 more9 k e0_0'' v49) (kM hd k I t m) e0_0' v42 more9
def tq (hd:dq S) (k:Nat) (I:Bool×Int->OS S) (t:Tm) (J1:Int->Int->Int->OS S) (rec0:Int->Int->OS S) (apx v17:Int):OS S:=ab (decide ((v17:Int)<(t.kids.length:Int))) (sf (af t.kids v17) fun x1=>aa k (gI k t.kind v17) fun r2=>aa k (ug hd k (ac x1) r2.1 r2.2 apx) fun r3=>ab (!r3.1) (I (false,r3.2)) (rec0 r3.2 (su .i64 (v17+1)))) (ab (t.kind==15) (J1 apx 0 1) (J1 apx 0 0))
def av6 (hd:dq S) (k:Nat) (I:Bool×Int->OS S) (t:Tm):Nat->Int->Int->OS S
 |0=>fun _ _=> .none
 |m+1=>fun apx v17=>tq hd k I t (fun e0_0' v42 more9=>kM hd k I t k e0_0' v42 more9) (av6 hd k I t m) apx v17
def IW (hd:dq S) (k:Nat) (I:Bool×Int->OS S) (J0:Int->Int->OS S) (t:Tm) (c0:Int):OS S:=J0 c0 0
def DY (hd:dq S) (k:Nat) (t:Tm) (c0:Int) (I:Bool×Int->OS S):OS S:=IW hd k I (fun apx v17=>av6 hd k I t k apx v17) t c0
def TS (hd:dq S) (k:Nat) (I:Int->OS S) (t:Tm):OS S:=aa k (DY hd k (ac t) 1) fun r1=>I r1.2
def j6:Nat->Tm->(Int->OS S)->OS S
 |0=>fun _ _=> .none
 |k+1=>fun t I=>TS (j6 k) k I t
abbrev fK (S:Type):=Tm->Int->(Int->OS S)->OS S
def xh (hd:fK S) (k:Nat) (I:Int->OS S) (a_n:Int) (t:Tm) (v49:Int) (x4:(Br Tm)) (rec2:Int->Int->OS S) (rec3:Int->Int->OS S) (sum5'' v56:Int):OS S:=ab (decide ((v56:Int)<(x4.kids.length:Int))) (sf (af x4.kids v56) fun x5=>hd (ac x5) a_n fun r6=>rec3 (su .i64 (sum5''+r6)) (su .i64 (v56+1))) (rec2 (su .i64 (v49+1)) sum5'')
def nG (hd:fK S) (k:Nat) (I:Int->OS S) (rec2:Int->Int->OS S) (a_n:Int) (t:Tm) (v49:Int) (x4:(Br Tm)):Nat->Int->Int->OS S
 |0=>fun _ _=> .none
 |m+1=>fun sum5'' v56=>xh hd k I a_n t v49 x4 rec2 (nG hd k I rec2 a_n t v49 x4 m) sum5'' v56
def sE (hd:fK S) (k:Nat) (I:Int->OS S) (a_n:Int) (t:Tm) (J3:Int->(Br Tm)->Int->Int->OS S) (rec2:Int->Int->OS S) (v49 sum5':Int):OS S:=ab (decide ((v49:Int)<(t.sys.length:Int))) (sf (af t.sys v49) fun x4=>J3 v49 x4 sum5' 0) (I sum5')
def ku (hd:fK S) (k:Nat) (I:Int->OS S) (a_n:Int) (t:Tm):Nat->Int->Int->OS S
 |0=>fun _ _=> .none
 |m+1=>fun v49 sum5'=>sE hd k I a_n t (fun v49 x4 sum5'' v56=>nG hd k I (ku hd k I a_n t m) a_n t v49 x4 k sum5'' v56) (ku hd k I a_n t m) v49 sum5'
def sD (hd:fK S) (k:Nat) (I:Int->OS S) (t:Tm) (a_n:Int) (J2:Int->Int->OS S) (rec1:Int->Int->OS S) (v26 sum5:Int):OS S:=ab (decide ((v26:Int)<(t.kids.length:Int))) (sf (af t.kids v26) fun x1=>aa k (gI k t.kind v26) fun r2=>hd (ac x1) (su .i64 (a_n+r2.1)) fun r3=>rec1 (su .i64 (v26+1)) (su .i64 (sum5+r3))) (J2 0 sum5)
def nF (hd:fK S) (k:Nat) (I:Int->OS S) (t:Tm) (a_n:Int):Nat->Int->Int->OS S
 |0=>fun _ _=> .none
 |m+1=>fun v26 sum5=>sD hd k I t a_n (fun v49 sum5'=>ku hd k I a_n t k v49 sum5') (nF hd k I t a_n m) v26 sum5
def xg (hd:fK S) (k:Nat) (I:Int->OS S) (t:Tm) (a_n:Int) (J1:Int->Int->OS S):OS S:=J1 0 0
def Ak (hd:fK S) (k:Nat) (I:Int->OS S) (t:Tm) (a_n:Int):Nat->OS S
 |0=> .none
 |_+1=>xg hd k I t a_n (fun v26 sum5=>nF hd k I t a_n k v26 sum5)
def BU (hd:fK S) (k:Nat) (I:Int->OS S) (J0:OS S) (t:Tm) (a_n:Int):OS S:=ab (t.kind==1) (ab (t.n==a_n) (I 1) (J0)) (J0)
def gz:Nat->Tm->Int->(Int->OS S)->OS S
 |0=>fun _ _ _=> .none
 |k+1=>fun t a_n I=>BU (gz k) k I (Ak (gz k) k I t a_n k) t a_n
def w9 (k:Nat) (I:Int->OS S) (l:List (LC)) (rec0:Int->OS S) (v7:Int):OS S:=ab (decide ((v7:Int)<(l.length:Int))) (sf (af l v7) fun x1=>aa k (hY k x1) fun r2=>ab (!r2) (I 2) (rec0 (su .i64 (v7+1)))) (I 0)
def qi (k:Nat) (I:Int->OS S) (l:List (LC)):Nat->Int->OS S
 |0=>fun _=> .none
 |m+1=>fun v7=>w9 k I l (qi k I l m) v7
def HT (k:Nat) (I:Int->OS S) (J0:Int->OS S) (l:List (LC)):OS S:=J0 0
def pi (k:Nat) (l:List (LC)) (I:Int->OS S):OS S:=HT k I (fun v7=>qi k I l k v7) l
def tK (k:Nat) (I:LC->OS S):OS S:=I ([]:LC)
def pn (k:Nat) (i:Int) (I:Int->OS S):OS S:=sf (bR (0<=(su .u64 (if 24<i then 24 else i)))) fun x1=>I (su .u32 (su .u64 ((su .u64 (1*2^min (arM (su .u64 (if 24<i then 24 else i))) 64))-1)))
def lx (k:Nat) (s a_from a_by:Int) (I:Int×Int->OS S):OS S:=ab (decide ((a_from:Int)<0)) (I (0,2)) (ab (decide ((a_by:Int)<0)) (I (0,2)) (aa k (pn k a_from) fun r1=>aa k (pn k a_from) fun r2=>ab ((su .u64 (bj .andNot .u32 (bj .and .u32 s 16777215) r2))==0) (I (bj .and .u32 (bj .and .u32 s 16777215) r1,0)) (ab (decide ((a_by:Int)>=24)) (I (0,10)) (sf (bR (0<=(su .u64 a_by))) fun x3=>ab (decide ((su .u64 ((su .u64 (bj .andNot .u32 (bj .and .u32 s 16777215) r2))*2^min (arM (su .u64 a_by)) 64):Int)>16777215)) (I (0,10)) (sf (bR (0<=(su .u64 a_by))) fun x4=>I (bj .or .u32 (bj .and .u32 (bj .and .u32 s 16777215) r1) (su .u32 (su .u64 ((su .u64 (bj .andNot .u32 (bj .and .u32 s 16777215) r2))*2^min (arM (su .u64 a_by)) 64))),0))))))
def yD (k:Nat) (c:Cl) (a_from a_by:Int) (I:Cl×Int->OS S):OS S:=aa k (tC k c) fun r1=>ab (!r1) (I ((Cl.mk 0 0),2)) (aa k (lx k c.pos a_from a_by) fun r2=>ab (!(r2.2==0)) (I ((Cl.mk 0 0),r2.2)) (aa k (lx k c.neg a_from a_by) fun r3=>ab (!(r3.2==0)) (I ((Cl.mk 0 0),r3.2)) (I ((Cl.mk r2.1 r3.1),0))))
def DN (k:Nat) (a_have:LC) (c:Cl) (c0 c1:Int) (I:LC×Int->OS S):OS S:=aa k (yD k c c0 c1) fun r1=>sf (aw 1099511627776 a_have.length [r1.1].length) fun x2=>I (a_have++[r1.1],r1.2)
def w6 (k:Nat) (I:LC×Int->OS S) (c0 c1:Int) (l:LC) (rec0:(LC)->Int->OS S) (v1:LC) (v15:Int):OS S:=ab (decide ((v15:Int)<(l.length:Int))) (sf (af l v15) fun x1=>aa k (DN k v1 x1 c0 c1) fun r2=>ab (!(r2.2==0)) (I (([]:LC),r2.2)) (rec0 r2.1 (su .i64 (v15+1)))) (I (v1,0))
def qf (k:Nat) (I:LC×Int->OS S) (c0 c1:Int) (l:LC):Nat->(LC)->Int->OS S
 |0=>fun _ _=> .none
 |m+1=>fun v1 v15=>w6 k I c0 c1 l (qf k I c0 c1 l m) v1 v15
def HQ (k:Nat) (I:LC×Int->OS S) (J0:(LC)->Int->OS S) (l a_from:LC) (c0 c1:Int):OS S:=J0 a_from 0
def yT (k:Nat) (l a_from:LC) (c0 c1:Int) (I:LC×Int->OS S):OS S:=HQ k I (fun v1 v15=>qf k I c0 c1 l k v1 v15) l a_from c0 c1
def jV (k:Nat) (f:LC) (a_from a_by:Int) (I:LC×Int->OS S):OS S:=aa k (pi k [f]) fun r1=>ab (!(r1==0)) (I (([]:LC),r1)) (aa k (tK k) fun r2=>aa k (yT k f r2 a_from a_by) fun r3=>ab (!(r3.2==0)) (I (([]:LC),r3.2)) (aa k (gy k r3.1) fun r4=>I (r4.1,r4.2)))
def tN (k:Nat) (l_0 l_1:Int) (f:LC) (a_from:Int) (I:Pan Int (LC)->OS S):OS S:=ab (l_1==0) (sf (aw 1099511627776 0 f.length) fun x1=>I (.ok f)) (ab (decide ((a_from:Int)>=24)) (sf (aw 1099511627776 0 f.length) fun x2=>I (.ok f)) (aa k (jV k f a_from l_1) fun r3=>ab (!(r3.2==0)) (I (.pan r3.2)) (I (.ok r3.1))))
abbrev fJ (S:Type):=Int->Int->Tm->Int->Int->(Pan Int Tm->OS S)->OS S
def xe (hd:fJ S) (k:Nat) (I:Pan Int Tm->OS S) (r12:LC) (l_0 l_1:Int) (t:Tm) (aqE:Int) (r2:LC) (b9_4:LT) (b9_5:LB) (x10:(Br Tm)) (more14 v d v90:Int) (rec2:(LB)->Int->Int->OS S) (rec3:(LT)->Int->OS S) (b17_1:LT) (v103:Int):OS S:=ab (decide ((v103:Int)<(x10.kids.length:Int))) (sf (af x10.kids v103) fun x14=>hd l_0 l_1 (ac x14) v (su .i64 (d+more14)) fun r16=>Pan.elim r16 (fun r16=>sf (aw 1099511627776 b17_1.length [(ac r16)].length) fun x18=>rec3 (b17_1++[(ac r16)]) (su .i64 (v103+1))) (fun e17=>I (.pan e17))) (sf (aw 1099511627776 b9_5.length [(Br.mk r12 b17_1)].length) fun x19=>rec2 (b9_5++[(Br.mk r12 b17_1)]) more14 (su .i64 (v90+1)))
def l7 (hd:fJ S) (k:Nat) (I:Pan Int Tm->OS S) (rec2:(LB)->Int->Int->OS S) (r12:LC) (l_0 l_1:Int) (t:Tm) (aqE:Int) (r2:LC) (b9_4:LT) (b9_5:LB) (x10:(Br Tm)) (more14 v d v90:Int):Nat->(LT)->Int->OS S
 |0=>fun _ _=> .none
 |m+1=>fun b17_1 v103=>xe hd k I r12 l_0 l_1 t aqE r2 b9_4 b9_5 x10 more14 v d v90 rec2 (l7 hd k I rec2 r12 l_0 l_1 t aqE r2 b9_4 b9_5 x10 more14 v d v90 m) b17_1 v103
def sA (hd:fJ S) (k:Nat) (I:Pan Int Tm->OS S) (l_0 l_1:Int) (t:Tm) (aqE:Int) (r2:LC) (b9_4:LT) (v d:Int) (J3:(LC)->(LB)->(Br Tm)->Int->Int->(LT)->Int->OS S) (rec2:(LB)->Int->Int->OS S) (b9_5:LB) (more14 v90:Int):OS S:=ab (decide ((v90:Int)<(t.sys.length:Int))) (sf (af t.sys v90) fun x10=>aa k (tN k l_0 l_1 x10.face d) fun r12=>Pan.elim r12 (fun r12=>J3 r12 b9_5 x10 more14 v90 ([]:LT) 0) (fun e13=>I (.pan e13))) (I (.ok (Tm.mk t.kind aqE t.name r2 b9_4 b9_5)))
def atX (hd:fJ S) (k:Nat) (I:Pan Int Tm->OS S) (l_0 l_1:Int) (t:Tm) (aqE:Int) (r2:LC) (b9_4:LT) (v d:Int):Nat->(LB)->Int->Int->OS S
 |0=>fun _ _ _=> .none
 |m+1=>fun b9_5 more14 v90=>sA hd k I l_0 l_1 t aqE r2 b9_4 v d (fun r12 b9_5 x10 more14 v90 b17_1 v103=>l7 hd k I (atX hd k I l_0 l_1 t aqE r2 b9_4 v d m) r12 l_0 l_1 t aqE r2 b9_4 b9_5 x10 more14 v d v90 k b17_1 v103) (atX hd k I l_0 l_1 t aqE r2 b9_4 v d m) b9_5 more14 v90
def sz (hd:fJ S) (k:Nat) (I:Pan Int Tm->OS S) (l_0 l_1:Int) (t:Tm) (aqE:Int) (r2:LC) (v d:Int) (J2:(LT)->(LB)->Int->Int->OS S) (rec1:(LT)->Int->OS S) (b9_4:LT) (v57:Int):OS S:=ab (decide ((v57:Int)<(t.kids.length:Int))) (sf (af t.kids v57) fun x4=>aa k (gI k t.kind v57) fun r5=>hd l_0 l_1 (ac x4) (su .i64 (v+r5.1)) (su .i64 (d+r5.2)) fun r7=>Pan.elim r7 (fun r7=>sf (aw 1099511627776 b9_4.length [(ac r7)].length) fun x9=>rec1 (b9_4++[(ac r7)]) (su .i64 (v57+1))) (fun e8=>I (.pan e8))) (ab (t.kind==15) (J2 b9_4 ([]:LB) 1 0) (J2 b9_4 ([]:LB) 0 0))
def auw (hd:fJ S) (k:Nat) (I:Pan Int Tm->OS S) (l_0 l_1:Int) (t:Tm) (aqE:Int) (r2:LC) (v d:Int):Nat->(LT)->Int->OS S
 |0=>fun _ _=> .none
 |m+1=>fun b9_4 v57=>sz hd k I l_0 l_1 t aqE r2 v d (fun b9_4 b9_5 more14 v90=>atX hd k I l_0 l_1 t aqE r2 b9_4 v d k b9_5 more14 v90) (auw hd k I l_0 l_1 t aqE r2 v d m) b9_4 v57
def Da (hd:fJ S) (k:Nat) (I:Pan Int Tm->OS S) (l_0 l_1:Int) (t:Tm) (r2:LC) (v d:Int) (J1:Int->(LT)->Int->OS S) (aqE:Int):OS S:=J1 aqE ([]:LT) 0
def uJ (hd:fJ S) (k:Nat) (I:Pan Int Tm->OS S) (l_0 l_1:Int) (t:Tm) (r2:LC) (v d:Int):Nat->Int->OS S
 |0=>fun _=> .none
 |_+1=>fun aqE=>Da hd k I l_0 l_1 t r2 v d (fun aqE b9_4 v57=>auw hd k I l_0 l_1 t aqE r2 v d k b9_4 v57) aqE
def HY (hd:fJ S) (k:Nat) (I:Pan Int Tm->OS S) (J0:(LC)->Int->OS S) (l_0 l_1:Int) (t:Tm) (v d:Int):OS S:=aa k (tN k l_0 l_1 t.r d) fun r2=>Pan.elim r2 (fun r2=>ab (t.kind==1) (ab (decide ((t.n:Int)>=v)) (ab (decide ((t.n:Int)>(su .i64 (1000000000-l_0)))) (I (.pan 100)) (J0 r2 (su .i64 (t.n+l_0)))) (J0 r2 t.n)) (J0 r2 t.n)) (fun e3=>I (.pan e3))
def dk:Nat->Int->Int->Tm->Int->Int->(Pan Int Tm->OS S)->OS S
 |0=>fun _ _ _ _ _ _=> .none
 |k+1=>fun l_0 l_1 t v d I=>HY (dk k) k I (fun r2 aqE=>uJ (dk k) k I l_0 l_1 t r2 v d k aqE) l_0 l_1 t v d
def yW (k:Nat) (c0 c1:Int) (c2:Tm) (I:Pan Int Tm->OS S):OS S:=dk k c1 0 (ac c2) 0 0 fun r2=>Pan.elim r2 (fun r2=>dk k 0 c0 (ac r2) 0 0 fun r5=>Pan.elim r5 (fun r5=>I (.ok (ac r5))) (fun e6=>I (.pan e6))) (fun e3=>I (.pan e3))
def xd (k:Nat) (I:Tm×Int->OS S) (c0 c1:Int) (c2:Tm) (numbers:List Int) (rec0:Int->OS S) (v19:Int):OS S:=ab (decide ((v19:Int)<(numbers.length:Int))) (sf (af numbers v19) fun x2=>ab (decide ((x2:Int)<0)) (I ((Tm.mk 0 0 alH [] [] []),2)) (rec0 (su .i64 (v19+1)))) (aa k (yW k c0 c1 (ac c2)) fun r4=>Pan.elim r4 (fun r4=>I ((ac r4),0)) (fun e5=>I ((Tm.mk 0 0 alH [] [] []),e5)))
def nE (k:Nat) (I:Tm×Int->OS S) (c0 c1:Int) (c2:Tm) (numbers:List Int):Nat->Int->OS S
 |0=>fun _=> .none
 |m+1=>fun v19=>xd k I c0 c1 c2 numbers (nE k I c0 c1 c2 numbers m) v19
def BS (k:Nat) (I:Tm×Int->OS S) (J0:Int->OS S) (t:Tm) (numbers:List Int) (c0 c1:Int) (c2:Tm):OS S:=aa k (asi k (ac t)) fun r1=>ab (!(r1==0)) (I ((Tm.mk 0 0 alH [] [] []),r1)) (J0 0)
def y7 (k:Nat) (t:Tm) (numbers:List Int) (c0 c1:Int) (c2:Tm) (I:Tm×Int->OS S):OS S:=BS k I (fun v19=>nE k I c0 c1 c2 numbers k v19) t numbers c0 c1 c2
def lu (k:Nat) (t:Tm) (vars dims:Int) (I:Tm×Int->OS S):OS S:=aa k (y7 k (ac t) [vars,dims,su .i64 (1000000-vars)] dims vars (ac t)) fun r1=>I ((ac r1.1),r1.2)
def ze (k:Nat) (t:Tm) (I:Int->OS S):OS S:=ab (t.kind==15) (I 1) (I 0)
abbrev gX (S:Type):=Tm->Int->Tm->Int->Int->(Pan Int Tm->OS S)->OS S
def xj (hd:gX S) (k:Nat) (I:Pan Int Tm->OS S) (t:Tm) (b13_4:LT) (b13_5:LB) (x9:(Br Tm)) (u:Tm) (a_n vars dims v99:Int) (rec1:(LB)->Int->OS S) (rec2:(LT)->Int->OS S) (b20_1:LT) (v110:Int):OS S:=ab (decide ((v110:Int)<(x9.kids.length:Int))) (sf (af x9.kids v110) fun x11=>aa k (ze k (ac t)) fun r12=>hd (ac x11) a_n (ac u) vars (su .i64 (dims+r12)) fun r14=>Pan.elim r14 (fun r14=>sf (aw 1099511627776 b20_1.length [(ac r14)].length) fun x16=>rec2 (b20_1++[(ac r14)]) (su .i64 (v110+1))) (fun e15=>I (.pan e15))) (sf (aw 1099511627776 b13_5.length [(Br.mk x9.face b20_1)].length) fun x17=>rec1 (b13_5++[(Br.mk x9.face b20_1)]) (su .i64 (v99+1)))
def avf (hd:gX S) (k:Nat) (I:Pan Int Tm->OS S) (rec1:(LB)->Int->OS S) (t:Tm) (b13_4:LT) (b13_5:LB) (x9:(Br Tm)) (u:Tm) (a_n vars dims v99:Int):Nat->(LT)->Int->OS S
 |0=>fun _ _=> .none
 |m+1=>fun b20_1 v110=>xj hd k I t b13_4 b13_5 x9 u a_n vars dims v99 rec1 (avf hd k I rec1 t b13_4 b13_5 x9 u a_n vars dims v99 m) b20_1 v110
def sG (hd:gX S) (k:Nat) (I:Pan Int Tm->OS S) (t:Tm) (b13_4:LT) (u:Tm) (a_n vars dims:Int) (J2:(LB)->(Br Tm)->Int->(LT)->Int->OS S) (rec1:(LB)->Int->OS S) (b13_5:LB) (v99:Int):OS S:=ab (decide ((v99:Int)<(t.sys.length:Int))) (sf (af t.sys v99) fun x9=>sf (aw 1099511627776 0 x9.face.length) fun x10=>J2 b13_5 x9 v99 ([]:LT) 0) (I (.ok (Tm.mk t.kind 0 t.name t.r b13_4 b13_5)))
def kw (hd:gX S) (k:Nat) (I:Pan Int Tm->OS S) (t:Tm) (b13_4:LT) (u:Tm) (a_n vars dims:Int):Nat->(LB)->Int->OS S
 |0=>fun _ _=> .none
 |m+1=>fun b13_5 v99=>sG hd k I t b13_4 u a_n vars dims (fun b13_5 x9 v99 b20_1 v110=>avf hd k I (kw hd k I t b13_4 u a_n vars dims m) t b13_4 b13_5 x9 u a_n vars dims v99 k b20_1 v110) (kw hd k I t b13_4 u a_n vars dims m) b13_5 v99
def sF (hd:gX S) (k:Nat) (I:Pan Int Tm->OS S) (t u:Tm) (a_n vars dims:Int) (J1:(LT)->(LB)->Int->OS S) (rec0:(LT)->Int->OS S) (b13_4:LT) (v68:Int):OS S:=ab (decide ((v68:Int)<(t.kids.length:Int))) (sf (af t.kids v68) fun x3=>aa k (gI k t.kind v68) fun r4=>hd (ac x3) a_n (ac u) (su .i64 (vars+r4.1)) (su .i64 (dims+r4.2)) fun r6=>Pan.elim r6 (fun r6=>sf (aw 1099511627776 b13_4.length [(ac r6)].length) fun x8=>rec0 (b13_4++[(ac r6)]) (su .i64 (v68+1))) (fun e7=>I (.pan e7))) (J1 b13_4 ([]:LB) 0)
def qj (hd:gX S) (k:Nat) (I:Pan Int Tm->OS S) (t u:Tm) (a_n vars dims:Int):Nat->(LT)->Int->OS S
 |0=>fun _ _=> .none
 |m+1=>fun b13_4 v68=>sF hd k I t u a_n vars dims (fun b13_4 b13_5 v99=>kw hd k I t b13_4 u a_n vars dims k b13_5 v99) (qj hd k I t u a_n vars dims m) b13_4 v68
def H2 (hd:gX S) (k:Nat) (I:Pan Int Tm->OS S) (J0:(LT)->Int->OS S) (t:Tm) (a_n:Int) (u:Tm) (vars dims:Int):OS S:=ab (t.kind==1) (ab (t.n==(su .i64 (a_n+vars))) (aa k (lu k (ac u) vars dims) fun r1=>ab (!(r1.2==0)) (I (.pan r1.2)) (I (.ok (ac r1.1)))) (ab (decide ((t.n:Int)>(su .i64 (a_n+vars)))) (I (.ok (Tm.mk 1 (su .i64 (t.n-1)) alH [] [] []))) (I (.ok (ac t))))) (sf (aw 1099511627776 0 t.r.length) fun x2=>J0 ([]:LT) 0)
def gA:Nat->Tm->Int->Tm->Int->Int->(Pan Int Tm->OS S)->OS S
 |0=>fun _ _ _ _ _ _=> .none
 |k+1=>fun t a_n u vars dims I=>H2 (gA k) k I (fun b13_4 v68=>qj (gA k) k I t u a_n vars dims k b13_4 v68) t a_n u vars dims
abbrev dp (S:Type):=Tm->(Int->OS S)->OS S
def uf (hd:dp S) (k:Nat) (a_k:Tm) (p p' c0:Int) (I:Bool×Int->OS S):OS S:=hd (ac a_k) fun r1=>I (true,if r1>c0 then r1 else c0)
def yk (hd:dp S) (k:Nat) (I:Bool×Int->OS S) (t:Tm) (v42:Int) (x4:(Br Tm)) (more9:Int) (rec1:Int->Int->Int->OS S) (rec2:Int->Int->OS S) (e0_0'' v49:Int):OS S:=ab (decide ((v49:Int)<(x4.kids.length:Int))) (sf (af x4.kids v49) fun x5=>aa k (uf hd k (ac x5) 0 more9 e0_0'') fun r6=>ab (!r6.1) (I (false,r6.2)) (rec2 r6.2 (su .i64 (v49+1)))) (rec1 e0_0'' (su .i64 (v42+1)) more9)
def n5 (hd:dp S) (k:Nat) (I:Bool×Int->OS S) (rec1:Int->Int->Int->OS S) (t:Tm) (v42:Int) (x4:(Br Tm)) (more9:Int):Nat->Int->Int->OS S
 |0=>fun _ _=> .none
 |m+1=>fun e0_0'' v49=>yk hd k I t v42 x4 more9 rec1 (n5 hd k I rec1 t v42 x4 more9 m) e0_0'' v49
def tu (hd:dp S) (k:Nat) (I:Bool×Int->OS S) (t:Tm) (J2:Int->(Br Tm)->Int->Int->Int->OS S) (rec1:Int->Int->Int->OS S) (e0_0' v42 more9:Int):OS S:=ab (decide ((v42:Int)<(t.sys.length:Int))) (sf (af t.sys v42) fun x4=>J2 v42 x4 more9 e0_0' 0) (I (true,e0_0'))
def kN (hd:dp S) (k:Nat) (I:Bool×Int->OS S) (t:Tm):Nat->Int->Int->Int->OS S
 |0=>fun _ _ _=> .none
 |m+1=>fun e0_0' v42 more9=>tu hd k I t (fun v42 x4 more9 e0_0'' v49=>n5 hd k I (kN hd k I t m) t v42 x4 more9 k e0_0'' v49) (kN hd k I t m) e0_0' v42 more9
def tt (hd:dp S) (k:Nat) (I:Bool×Int->OS S) (t:Tm) (J1:Int->Int->Int->OS S) (rec0:Int->Int->OS S) (apx v17:Int):OS S:=ab (decide ((v17:Int)<(t.kids.length:Int))) (sf (af t.kids v17) fun x1=>aa k (gI k t.kind v17) fun r2=>aa k (uf hd k (ac x1) r2.1 r2.2 apx) fun r3=>ab (!r3.1) (I (false,r3.2)) (rec0 r3.2 (su .i64 (v17+1)))) (ab (t.kind==15) (J1 apx 0 1) (J1 apx 0 0))
def av7 (hd:dp S) (k:Nat) (I:Bool×Int->OS S) (t:Tm):Nat->Int->Int->OS S
 |0=>fun _ _=> .none
 |m+1=>fun apx v17=>tt hd k I t (fun e0_0' v42 more9=>kN hd k I t k e0_0' v42 more9) (av7 hd k I t m) apx v17
def IX (hd:dp S) (k:Nat) (I:Bool×Int->OS S) (J0:Int->Int->OS S) (t:Tm) (c0:Int):OS S:=J0 c0 0
def DZ (hd:dp S) (k:Nat) (t:Tm) (c0:Int) (I:Bool×Int->OS S):OS S:=IX hd k I (fun apx v17=>av7 hd k I t k apx v17) t c0
def TO (hd:dp S) (k:Nat) (I:Int->OS S) (t:Tm):OS S:=aa k (DZ hd k (ac t) 0) fun r1=>I (su .i64 (r1.2+1))
def j5:Nat->Tm->(Int->OS S)->OS S
 |0=>fun _ _=> .none
 |k+1=>fun t I=>TO (j5 k) k I t
def zd (k:Nat) (t:Tm) (a_n:Int) (u:Tm) (I:Tm×Int->OS S):OS S:=aa k (asi k (ac t)) fun r1=>ab (!(r1==0)) (I ((Tm.mk 0 0 alH [] [] []),r1)) (aa k (asi k (ac u)) fun r2=>ab (!(r2==0)) (I ((Tm.mk 0 0 alH [] [] []),r2)) (ab (decide ((a_n:Int)<0)) (I ((Tm.mk 0 0 alH [] [] []),2)) (j6 k (ac t) fun r3=>gz k (ac t) (if 1099511627776<a_n then 1099511627776 else a_n) fun r4=>j6 k (ac u) fun r5=>ab (decide ((su .i64 (r3+(su .i64 (r4*(su .i64 (r5-1))))):Int)>20000)) (I ((Tm.mk 0 0 alH [] [] []),221)) (gA k (ac t) (if 1099511627776<a_n then 1099511627776 else a_n) (ac u) 0 0 fun r7=>Pan.elim r7 (fun r7=>j5 k (ac r7) fun r9=>ab (decide ((r9:Int)>200)) (I ((Tm.mk 0 0 alH [] [] []),62)) (I ((ac r7),0))) (fun e8=>I ((Tm.mk 0 0 alH [] [] []),e8))))))
def asH (k:Nat) (t:Tm) (a_e c0:Int) (I:Tm×Int->OS S):OS S:=ab (c0==0) (ab (!(a_e==0)) (I ((Tm.mk 0 0 alH [] [] []),a_e)) (I ((ac t),a_e))) (ab (!(c0==0)) (I ((Tm.mk 0 0 alH [] [] []),c0)) (I ((ac t),c0)))
def za (k:Nat) (t u:Tm) (c0:Int) (I:Tm×Int->OS S):OS S:=aa k (dG k c0) fun r1=>ab (!r1) (I ((Tm.mk 0 0 alH [] [] []),c0)) (aa k (zd k (ac t) 0 (ac u)) fun r2=>aa k (asH k (ac r2.1) r2.2 c0) fun r3=>I ((ac r3.1),r3.2))
def cW (k:Nat) (b:(Br Tm)) (I:Bool->OS S):OS S:=ab ((b.face.length:Int)==1) (sf (af b.face 0) fun x1=>I ((x1.pos==0)&&((x1.neg==0)&&true))) (I false)
def cm (k:Nat) (I:Int->OS S) (s:LB) (rec0:Int->OS S) (v8:Int):OS S:=ab (decide ((v8:Int)<(s.length:Int))) (sf (af s v8) fun x1=>aa k (cW k x1) fun r2=>ab (r2) (I v8) (rec0 (su .i64 (v8+1)))) (I (-1))
def av4 (k:Nat) (I:Int->OS S) (s:LB):Nat->Int->OS S
 |0=>fun _=> .none
 |m+1=>fun v8=>cm k I s (av4 k I s m) v8
def aAn (k:Nat) (I:Int->OS S) (J0:Int->OS S) (s:LB):OS S:=J0 0
def cP (k:Nat) (s:LB) (I:Int->OS S):OS S:=aAn k I (fun v8=>av4 k I s k v8) s
def cS (k:Nat) (l:LB) (I:Int->OS S):OS S:=aa k (cP k l) fun r1=>I r1
def au3 (k:Nat) (I:LC->OS S):OS S:=I [(Cl.mk 0 0)]
def i_ (k:Nat) (s i:Int) (I:Int->OS S):OS S:=aa k (nd k i) fun r1=>ab (!r1) (I (bj .and .u32 s 16777215)) (sf (bR (0<=(su .u64 i))) fun x2=>I (bj .or .u32 (bj .and .u32 s 16777215) (su .u32 (1*2^min (arM (su .u64 i)) 32))))
def JH (k:Nat) (a_x:Int) (I:Int->OS S):OS S:=sf (af (ByteArray.mk #[0,1,1,2,1,2,2,3,1,2,2,3,2,3,3,4,1,2,2,3,2,3,3,4,2,3,3,4,3,4,4,5,1,2,2,3,2,3,3,4,2,3,3,4,3,4,4,5,2,3,3,4,3,4,4,5,3,4,4,5,4,5,5,6,1,2,2,3,2,3,3,4,2,3,3,4,3,4,4,5,2,3,3,4,3,4,4,5,3,4,4,5,4,5,5,6,2,3,3,4,3,4,4,5,3,4,4,5,4,5,5,6,3,4,4,5,4,5,5,6,4,5,5,6,5,6,6,7,1,2,2,3,2,3,3,4,2,3,3,4,3,4,4,5,2,3,3,4,3,4,4,5,3,4,4,5,4,5,5,6,2,3,3,4,3,4,4,5,3,4,4,5,4,5,5,6,3,4,4,5,4,5,5,6,4,5,5,6,5,6,6,7,2,3,3,4,3,4,4,5,3,4,4,5,4,5,5,6,3,4,4,5,4,5,5,6,4,5,5,6,5,6,6,7,3,4,4,5,4,5,5,6,4,5,5,6,5,6,6,7,4,5,5,6,5,6,6,7,5,6,6,7,6,7,7,8]).data.toList (Int.fdiv a_x (2^min (arM 24) 32))) fun x1=>sf (af (ByteArray.mk #[0,1,1,2,1,2,2,3,1,2,2,3,2,3,3,4,1,2,2,3,2,3,3,4,2,3,3,4,3,4,4,5,1,2,2,3,2,3,3,4,2,3,3,4,3,4,4,5,2,3,3,4,3,4,4,5,3,4,4,5,4,5,5,6,1,2,2,3,2,3,3,4,2,3,3,4,3,4,4,5,2,3,3,4,3,4,4,5,3,4,4,5,4,5,5,6,2,3,3,4,3,4,4,5,3,4,4,5,4,5,5,6,3,4,4,5,4,5,5,6,4,5,5,6,5,6,6,7,1,2,2,3,2,3,3,4,2,3,3,4,3,4,4,5,2,3,3,4,3,4,4,5,3,4,4,5,4,5,5,6,2,3,3,4,3,4,4,5,3,4,4,5,4,5,5,6,3,4,4,5,4,5,5,6,4,5,5,6,5,6,6,7,2,3,3,4,3,4,4,5,3,4,4,5,4,5,5,6,3,4,4,5,4,5,5,6,4,5,5,6,5,6,6,7,3,4,4,5,4,5,5,6,4,5,5,6,5,6,6,7,4,5,5,6,5,6,6,7,5,6,6,7,6,7,7,8]).data.toList (bj .and .u32 (Int.fdiv a_x (2^min (arM 16) 32)) 255)) fun x2=>sf (af (ByteArray.mk #[0,1,1,2,1,2,2,3,1,2,2,3,2,3,3,4,1,2,2,3,2,3,3,4,2,3,3,4,3,4,4,5,1,2,2,3,2,3,3,4,2,3,3,4,3,4,4,5,2,3,3,4,3,4,4,5,3,4,4,5,4,5,5,6,1,2,2,3,2,3,3,4,2,3,3,4,3,4,4,5,2,3,3,4,3,4,4,5,3,4,4,5,4,5,5,6,2,3,3,4,3,4,4,5,3,4,4,5,4,5,5,6,3,4,4,5,4,5,5,6,4,5,5,6,5,6,6,7,1,2,2,3,2,3,3,4,2,3,3,4,3,4,4,5,2,3,3,4,3,4,4,5,3,4,4,5,4,5,5,6,2,3,3,4,3,4,4,5,3,4,4,5,4,5,5,6,3,4,4,5,4,5,5,6,4,5,5,6,5,6,6,7,2,3,3,4,3,4,4,5,3,4,4,5,4,5,5,6,3,4,4,5,4,5,5,6,4,5,5,6,5,6,6,7,3,4,4,5,4,5,5,6,4,5,5,6,5,6,6,7,4,5,5,6,5,6,6,7,5,6,6,7,6,7,7,8]).data.toList (bj .and .u32 (Int.fdiv a_x (2^min (arM 8) 32)) 255)) fun x3=>sf (af (ByteArray.mk #[0,1,1,2,1,2,2,3,1,2,2,3,2,3,3,4,1,2,2,3,2,3,3,4,2,3,3,4,3,4,4,5,1,2,2,3,2,3,3,4,2,3,3,4,3,4,4,5,2,3,3,4,3,4,4,5,3,4,4,5,4,5,5,6,1,2,2,3,2,3,3,4,2,3,3,4,3,4,4,5,2,3,3,4,3,4,4,5,3,4,4,5,4,5,5,6,2,3,3,4,3,4,4,5,3,4,4,5,4,5,5,6,3,4,4,5,4,5,5,6,4,5,5,6,5,6,6,7,1,2,2,3,2,3,3,4,2,3,3,4,3,4,4,5,2,3,3,4,3,4,4,5,3,4,4,5,4,5,5,6,2,3,3,4,3,4,4,5,3,4,4,5,4,5,5,6,3,4,4,5,4,5,5,6,4,5,5,6,5,6,6,7,2,3,3,4,3,4,4,5,3,4,4,5,4,5,5,6,3,4,4,5,4,5,5,6,4,5,5,6,5,6,6,7,3,4,4,5,4,5,5,6,4,5,5,6,5,6,6,7,4,5,5,6,5,6,6,7,5,6,6,7,6,7,7,8]).data.toList (bj .and .u32 a_x 255)) fun x4=>I (su .i64 (su .u8 ((su .u8 ((su .u8 ((x1.toNat:Int)+(x2.toNat:Int)))+(x3.toNat:Int)))+(x4.toNat:Int))))
def lw (k:Nat) (s:Int) (I:Int->OS S):OS S:=aa k (JH k (bj .and .u32 s 16777215)) fun r1=>I r1
def yE (k:Nat) (i:Int) (I:Bool->OS S):OS S:=aa k (i_ k 0 i) fun r1=>aa k (lw k r1) fun r2=>I (r2==1)
def DM (k:Nat) (t:Tm) (i:Int) (a_r:LC) (I:Int->OS S):OS S:=aa k (asi k (ac t)) fun r1=>ab (!(r1==0)) (I r1) (aa k (yE k i) fun r2=>ab (!r2) (I 2) (aa k (hY k a_r) fun r3=>ab (!r3) (I 2) (I 0)))
def DG (k:Nat) (c0:Int) (c1:LC) (I:Unit->OS S):OS S:=I ()
def DH (k:Nat) (c0:Int) (c1:LC) (I:Unit->OS S):OS S:=I ()
def DF (k:Nat) (i:Int) (a_r:LC) (I:Int×LC->OS S):OS S:=aa k (DG k i a_r) fun r1=>aa k (DH k i a_r) fun r2=>I (i,a_r)
def amz (k:Nat) (s i:Int) (I:Bool->OS S):OS S:=aa k (nd k i) fun r1=>ab (r1) (sf (bR (0<=(su .u64 i))) fun x2=>I ((bj .and .u32 (Int.fdiv s (2^min (arM (su .u64 i)) 32)) 1)==1)) (I false)
def tD (k:Nat) (f:LC) (I:LC->OS S):OS S:=sf (aw 1099511627776 0 f.length) fun x1=>I f
def yK (k:Nat) (i:Int) (I:Bool->OS S):OS S:=aa k (i_ k 0 i) fun r1=>aa k (lw k r1) fun r2=>I (r2==1)
def tJ (k:Nat) (c:Cl) (I:Cl×Bool->OS S):OS S:=aa k (tB k c) fun r1=>I (c,!r1)
def wW (k:Nat) (I:LC->OS S) (l:LC) (rec0:Int->(LC)->OS S) (v12:Int) (out5:LC):OS S:=ab (decide ((v12:Int)<(l.length:Int))) (sf (af l v12) fun x1=>aa k (tJ k x1) fun r2=>ab (r2.2) (sf (aw 1099511627776 out5.length [r2.1].length) fun x3=>rec0 (su .i64 (v12+1)) (out5++[r2.1])) (rec0 (su .i64 (v12+1)) out5)) (I out5)
def avM (k:Nat) (I:LC->OS S) (l:LC):Nat->Int->(LC)->OS S
 |0=>fun _ _=> .none
 |m+1=>fun v12 out5=>wW k I l (avM k I l m) v12 out5
def HJ (k:Nat) (I:LC->OS S) (J0:Int->(LC)->OS S) (l:LC):OS S:=J0 0 ([]:LC)
def yN (k:Nat) (l:LC) (I:LC->OS S):OS S:=HJ k I (fun v12 out5=>avM k I l k v12 out5) l
def tI (k:Nat) (f:LC) (I:LC×Int->OS S):OS S:=aa k (hY k f) fun r1=>ab (!r1) (I (([]:LC),2)) (aa k (yN k f) fun r2=>aa k (gy k r2) fun r3=>I (r3.1,r3.2))
def yO (k:Nat) (b c0:Cl) (I:Cl×Bool->OS S):OS S:=aa k (pb k c0 b) fun r1=>aa k (tJ k r1) fun r2=>I (r2.1,r2.2)
def wV (k:Nat) (I:LC->OS S) (c0:Cl) (l:LC) (rec0:Int->(LC)->OS S) (v12:Int) (out5:LC):OS S:=ab (decide ((v12:Int)<(l.length:Int))) (sf (af l v12) fun x1=>aa k (yO k x1 c0) fun r2=>ab (r2.2) (sf (aw 1099511627776 out5.length [r2.1].length) fun x3=>rec0 (su .i64 (v12+1)) (out5++[r2.1])) (rec0 (su .i64 (v12+1)) out5)) (I out5)
def p8 (k:Nat) (I:LC->OS S) (c0:Cl) (l:LC):Nat->Int->(LC)->OS S
 |0=>fun _ _=> .none
 |m+1=>fun v12 out5=>wV k I c0 l (p8 k I c0 l m) v12 out5
def HI (k:Nat) (I:LC->OS S) (J0:Int->(LC)->OS S) (l:LC) (c0:Cl):OS S:=J0 0 ([]:LC)
def yM (k:Nat) (l:LC) (c0:Cl) (I:LC->OS S):OS S:=HI k I (fun v12 out5=>p8 k I c0 l k v12 out5) l c0
def wX (k:Nat) (I:LC×Int->OS S) (g f:LC) (rec0:Int->(LC)->OS S) (v11:Int) (out6:LC):OS S:=ab (decide ((v11:Int)<(f.length:Int))) (sf (af f v11) fun x1=>aa k (yM k g x1) fun r2=>sf (aw 1099511627776 out6.length r2.length) fun x3=>rec0 (su .i64 (v11+1)) (out6++r2)) (aa k (gy k out6) fun r4=>I (r4.1,r4.2))
def p_ (k:Nat) (I:LC×Int->OS S) (g f:LC):Nat->Int->(LC)->OS S
 |0=>fun _ _=> .none
 |m+1=>fun v11 out6=>wX k I g f (p_ k I g f m) v11 out6
def HK (k:Nat) (I:LC×Int->OS S) (J0:Int->(LC)->OS S) (f g:LC):OS S:=J0 0 ([]:LC)
def pe (k:Nat) (f g:LC) (I:LC×Int->OS S):OS S:=HK k I (fun v11 out6=>p_ k I g f k v11 out6) f g
def yL (k:Nat) (f g:LC) (I:LC×Int->OS S):OS S:=sf (aw 1099511627776 ([]:LC).length f.length) fun x1=>sf (aw 1099511627776 (([]:LC)++f).length g.length) fun x2=>aa k (gy k ((([]:LC)++f)++g)) fun r3=>I (r3.1,r3.2)
def w8 (k:Nat) (I:LC×Int->OS S) (r5:List Int) (rec1:Int->(LC)->OS S) (v28:Int) (out4':LC):OS S:=ab (decide ((v28:Int)<(r5.length:Int))) (sf (af r5 v28) fun x6=>aa k (i_ k 0 x6) fun r7=>sf (aw 1099511627776 out4'.length [(Cl.mk r7 0)].length) fun x8=>rec1 (su .i64 (v28+1)) (out4'++[(Cl.mk r7 0)])) (aa k (gy k out4') fun r9=>I (r9.1,r9.2))
def avc (k:Nat) (I:LC×Int->OS S) (r5:List Int):Nat->Int->(LC)->OS S
 |0=>fun _ _=> .none
 |m+1=>fun v28 out4'=>w8 k I r5 (avc k I r5 m) v28 out4'
def aoa (k:Nat) (I:LC×Int->OS S) (c:Cl) (r1:List Int) (J1:(List Int)->Int->(LC)->OS S) (rec0:Int->(LC)->OS S) (v13:Int) (out4:LC):OS S:=ab (decide ((v13:Int)<(r1.length:Int))) (sf (af r1 v13) fun x2=>aa k (i_ k 0 x2) fun r3=>sf (aw 1099511627776 out4.length [(Cl.mk 0 r3)].length) fun x4=>rec0 (su .i64 (v13+1)) (out4++[(Cl.mk 0 r3)])) (vz c.neg fun r5=>J1 r5 0 out4)
def qh (k:Nat) (I:LC×Int->OS S) (c:Cl) (r1:List Int):Nat->Int->(LC)->OS S
 |0=>fun _ _=> .none
 |m+1=>fun v13 out4=>aoa k I c r1 (fun r5 v28 out4'=>avc k I r5 k v28 out4') (qh k I c r1 m) v13 out4
def HS (k:Nat) (I:LC×Int->OS S) (J0:(List Int)->Int->(LC)->OS S) (c:Cl):OS S:=vz c.pos fun r1=>J0 r1 0 ([]:LC)
def yV (k:Nat) (c:Cl) (I:LC×Int->OS S):OS S:=HS k I (fun r1 v13 out4=>qh k I c r1 k v13 out4) c
def w7 (k:Nat) (I:LC×Int->OS S) (x1:Cl) (g f:LC) (v13:Int) (rec0:Int->(LC)->OS S) (rec1:Int->(LC)->OS S) (v19:Int) (out6':LC):OS S:=ab (decide ((v19:Int)<(g.length:Int))) (sf (af g v19) fun x2=>aa k (pb k x1 x2) fun r3=>sf (aw 1099511627776 out6'.length [r3].length) fun x4=>rec1 (su .i64 (v19+1)) (out6'++[r3])) (rec0 (su .i64 (v13+1)) out6')
def nA (k:Nat) (I:LC×Int->OS S) (rec0:Int->(LC)->OS S) (x1:Cl) (g f:LC) (v13:Int):Nat->Int->(LC)->OS S
 |0=>fun _ _=> .none
 |m+1=>fun v19 out6'=>w7 k I x1 g f v13 rec0 (nA k I rec0 x1 g f v13 m) v19 out6'
def an_ (k:Nat) (I:LC×Int->OS S) (g f:LC) (J1:Cl->Int->Int->(LC)->OS S) (rec0:Int->(LC)->OS S) (v13:Int) (out6:LC):OS S:=ab (decide ((v13:Int)<(f.length:Int))) (sf (af f v13) fun x1=>J1 x1 v13 0 out6) (aa k (gy k out6) fun r5=>I (r5.1,r5.2))
def lZ (k:Nat) (I:LC×Int->OS S) (g f:LC):Nat->Int->(LC)->OS S
 |0=>fun _ _=> .none
 |m+1=>fun v13 out6=>an_ k I g f (fun x1 v13 v19 out6'=>nA k I (lZ k I g f m) x1 g f v13 k v19 out6') (lZ k I g f m) v13 out6
def HR (k:Nat) (I:LC×Int->OS S) (J0:Int->(LC)->OS S) (f g:LC):OS S:=J0 0 ([]:LC)
def jW (k:Nat) (f g:LC) (I:LC×Int->OS S):OS S:=HR k I (fun v13 out6=>lZ k I g f k v13 out6) f g
def yU (k:Nat) (a_have:LC) (c:Cl) (I:LC×Int->OS S):OS S:=aa k (yV k c) fun r1=>ab (!(r1.2==0)) (I (([]:LC),r1.2)) (aa k (jW k a_have r1.1) fun r2=>I (r2.1,r2.2))
def w5 (k:Nat) (I:LC×Int->OS S) (l:LC) (rec0:(LC)->Int->OS S) (v1:LC) (v15:Int):OS S:=ab (decide ((v15:Int)<(l.length:Int))) (sf (af l v15) fun x1=>aa k (yU k v1 x1) fun r2=>ab (!(r2.2==0)) (I (([]:LC),r2.2)) (rec0 r2.1 (su .i64 (v15+1)))) (I (v1,0))
def qe (k:Nat) (I:LC×Int->OS S) (l:LC):Nat->(LC)->Int->OS S
 |0=>fun _ _=> .none
 |m+1=>fun v1 v15=>w5 k I l (qe k I l m) v1 v15
def HP (k:Nat) (I:LC×Int->OS S) (J0:(LC)->Int->OS S) (l a_from:LC):OS S:=J0 a_from 0
def DP (k:Nat) (l a_from:LC) (I:LC×Int->OS S):OS S:=HP k I (fun v1 v15=>qe k I l k v1 v15) l a_from
def ph (k:Nat) (f:LC) (I:LC×Int->OS S):OS S:=aa k (au3 k) fun r1=>aa k (DP k f r1) fun r2=>I (r2.1,r2.2)
def yQ (k:Nat) (f:LC) (I:LC×Int->OS S):OS S:=aa k (pi k [f]) fun r1=>ab (!(r1==0)) (I (([]:LC),r1)) (aa k (ph k f) fun r2=>I (r2.1,r2.2))
def yI (k:Nat) (f:LC) (I:LC×Int->OS S):OS S:=aa k (yQ k f) fun r1=>ab (!(r1.2==0)) (I (([]:LC),r1.2)) (aa k (tI k r1.1) fun r2=>I (r2.1,r2.2))
def wU (k:Nat) (I:LC×Int->OS S) (i:Int) (a_r f:LC) (v29:Int) (v8:LC) (rec0:Int->(LC)->OS S) (g11:LC) (v13:Int):OS S:=ab (v13==0) (aa k (yL k v8 g11) fun r10=>ab (!(r10.2==0)) (I (([]:LC),r10.2)) (rec0 (su .i64 (v29+1)) r10.1)) (ab (!(v13==0)) (I (([]:LC),v13)) (rec0 (su .i64 (v29+1)) v8))
def p7 (k:Nat) (I:LC×Int->OS S) (rec0:Int->(LC)->OS S) (i:Int) (a_r f:LC) (v29:Int) (v8:LC):Nat->(LC)->Int->OS S
 |0=>fun _ _=> .none
 |_+1=>fun g11 v13=>wU k I i a_r f v29 v8 rec0 g11 v13
def sr (k:Nat) (I:LC×Int->OS S) (i:Int) (a_r f:LC) (J1:Int->(LC)->(LC)->Int->OS S) (rec0:Int->(LC)->OS S) (v29:Int) (v8:LC):OS S:=ab (decide ((v29:Int)<(f.length:Int))) (sf (af f v29) fun x4=>aa k (jX k x4.pos i) fun r5=>aa k (jX k x4.neg i) fun r6=>aa k (amz k x4.pos i) fun r7=>ab (r7) (aa k (tI k a_r) fun r8=>ab (r8.2==0) (aa k (pe k [(Cl.mk r5 r6)] r8.1) fun r9=>J1 v29 v8 r9.1 r9.2) (J1 v29 v8 [(Cl.mk r5 r6)] r8.2)) (aa k (amz k x4.neg i) fun r11=>ab (r11) (aa k (yI k a_r) fun r12=>ab (r12.2==0) (aa k (pe k [(Cl.mk r5 r6)] r12.1) fun r13=>J1 v29 v8 r13.1 r13.2) (J1 v29 v8 [(Cl.mk r5 r6)] r12.2)) (J1 v29 v8 [(Cl.mk r5 r6)] 0))) (I (v8,0))
def lY (k:Nat) (I:LC×Int->OS S) (i:Int) (a_r f:LC):Nat->Int->(LC)->OS S
 |0=>fun _ _=> .none
 |m+1=>fun v29 v8=>sr k I i a_r f (fun v29 v8 g11 v13=>p7 k I (lY k I i a_r f m) i a_r f v29 v8 k g11 v13) (lY k I i a_r f m) v29 v8
def HH (k:Nat) (I:LC×Int->OS S) (J0:Int->(LC)->OS S) (f:LC) (i:Int) (a_r:LC):OS S:=aa k (pd k f) fun r1=>ab (!r1) (I (([]:LC),2)) (aa k (yK k i) fun r2=>ab (!r2) (I (([]:LC),2)) (aa k (hY k a_r) fun r3=>ab (!r3) (I (([]:LC),2)) (J0 0 [])))
def yJ (k:Nat) (f:LC) (i:Int) (a_r:LC) (I:LC×Int->OS S):OS S:=HH k I (fun v29 v8=>lY k I i a_r f k v29 v8) f i a_r
def tF (k:Nat) (f:LC) (depth c0:Int) (c1:LC) (I:LC×Int->OS S):OS S:=aa k (jc k f) fun r1=>aa k (amz k r1 (su .i64 (c0+depth))) fun r2=>ab (!r2) (aa k (tD k f) fun r3=>I (r3,0)) (aa k (jV k c1 0 depth) fun r4=>ab (!(r4.2==0)) (I (([]:LC),r4.2)) (aa k (yJ k f (su .i64 (c0+depth)) r4.1) fun r5=>I (r5.1,r5.2)))
def yP (k:Nat) (i:Int) (I:LC×Int->OS S):OS S:=aa k (i_ k 0 i) fun r1=>aa k (lw k r1) fun r2=>ab (r2==0) (I (([]:LC),2)) (aa k (i_ k 0 i) fun r3=>I ([(Cl.mk r3 0)],0))
def na (k:Nat) (f g:LC) (I:LC×Int->OS S):OS S:=sf (aw 1099511627776 ([]:LC).length f.length) fun x1=>sf (aw 1099511627776 (([]:LC)++f).length g.length) fun x2=>aa k (gy k ((([]:LC)++f)++g)) fun r3=>I (r3.1,r3.2)
def yS (k:Nat) (a_have:LC) (c:Cl) (c0:Int) (c1:LC) (I:LC×Int->OS S):OS S:=aa k (jX k c.pos c0) fun r1=>aa k (jX k c.neg c0) fun r2=>aa k (amz k c.pos c0) fun r3=>ab (r3) (aa k (jW k [(Cl.mk r1 r2)] c1) fun r4=>ab (!(r4.2==0)) (I (([]:LC),r4.2)) (aa k (amz k c.neg c0) fun r5=>ab (r5) (aa k (ph k c1) fun r6=>ab (!(r6.2==0)) (I (([]:LC),r6.2)) (aa k (jW k r4.1 r6.1) fun r7=>ab (!(r7.2==0)) (I (([]:LC),r7.2)) (aa k (na k a_have r7.1) fun r8=>I (r8.1,r8.2)))) (aa k (na k a_have r4.1) fun r9=>I (r9.1,r9.2)))) (aa k (amz k c.neg c0) fun r10=>ab (r10) (aa k (ph k c1) fun r11=>ab (!(r11.2==0)) (I (([]:LC),r11.2)) (aa k (jW k [(Cl.mk r1 r2)] r11.1) fun r12=>ab (!(r12.2==0)) (I (([]:LC),r12.2)) (aa k (na k a_have r12.1) fun r13=>I (r13.1,r13.2)))) (aa k (na k a_have [(Cl.mk r1 r2)]) fun r14=>I (r14.1,r14.2)))
def wZ (k:Nat) (I:LC×Int->OS S) (c0:Int) (c1 l:LC) (rec0:(LC)->Int->OS S) (v1:LC) (v15:Int):OS S:=ab (decide ((v15:Int)<(l.length:Int))) (sf (af l v15) fun x1=>aa k (yS k v1 x1 c0 c1) fun r2=>ab (!(r2.2==0)) (I (([]:LC),r2.2)) (rec0 r2.1 (su .i64 (v15+1)))) (I (v1,0))
def qc (k:Nat) (I:LC×Int->OS S) (c0:Int) (c1 l:LC):Nat->(LC)->Int->OS S
 |0=>fun _ _=> .none
 |m+1=>fun v1 v15=>wZ k I c0 c1 l (qc k I c0 c1 l m) v1 v15
def HO (k:Nat) (I:LC×Int->OS S) (J0:(LC)->Int->OS S) (l a_from:LC) (c0:Int) (c1:LC):OS S:=J0 a_from 0
def DO (k:Nat) (l a_from:LC) (c0:Int) (c1:LC) (I:LC×Int->OS S):OS S:=HO k I (fun v1 v15=>qc k I c0 c1 l k v1 v15) l a_from c0 c1
def yR (k:Nat) (f:LC) (i:Int) (a_r:LC) (I:LC×Int->OS S):OS S:=aa k (pi k [f,a_r]) fun r1=>ab (!(r1==0)) (I (([]:LC),r1)) (aa k (yP k i) fun r2=>ab (!(r2.2==0)) (I (([]:LC),r2.2)) (aa k (tK k) fun r3=>aa k (DO k f r3 i a_r) fun r4=>I (r4.1,r4.2)))
def yF (k:Nat) (f:LC) (depth c0:Int) (c1:LC) (I:LC×Int->OS S):OS S:=aa k (jc k f) fun r1=>aa k (amz k r1 (su .i64 (c0+depth))) fun r2=>ab (!r2) (aa k (tD k f) fun r3=>I (r3,0)) (aa k (jV k c1 0 depth) fun r4=>ab (!(r4.2==0)) (I (([]:LC),r4.2)) (aa k (yR k f (su .i64 (c0+depth)) r4.1) fun r5=>I (r5.1,r5.2)))
def yG (k:Nat) (t:Tm) (depth c0:Int) (c1:LC) (I:LC×Int->OS S):OS S:=ab (t.kind==14) (aa k (tF k t.r depth c0 c1) fun r1=>I (r1.1,r1.2)) (aa k (yF k t.r depth c0 c1) fun r2=>I (r2.1,r2.2))
def tG (k:Nat) (i:Int) (c0:Tm) (I:Int->OS S):OS S:=aa k (gI k c0.kind i) fun r1=>I r1.2
def tH (k:Nat) (p c0:Int) (I:Int->OS S):OS S:=I c0
abbrev c8 (S:Type):=Tm->Int->Int->(LC)->(Tm×Int->OS S)->OS S
def wQ (hd:c8 S) (k:Nat) (I:LT×Int->OS S) (c0:Int) (c1:LC) (c4:Int) (l:LT) (depth:Int) (rec0:(LT)->Int->OS S) (out10:LT) (v17:Int):OS S:=ab (decide ((v17:Int)<(l.length:Int))) (sf (af l v17) fun x1=>aa k (tH k v17 c4) fun r2=>hd (ac x1) (su .i64 (depth+r2)) c0 c1 fun r3=>ab (!(r3.2==0)) (I (([]:LT),r3.2)) (sf (aw 1099511627776 out10.length [(ac r3.1)].length) fun x4=>rec0 (out10++[(ac r3.1)]) (su .i64 (v17+1)))) (I (out10,0))
def lW (hd:c8 S) (k:Nat) (I:LT×Int->OS S) (c0:Int) (c1:LC) (c4:Int) (l:LT) (depth:Int):Nat->(LT)->Int->OS S
 |0=>fun _ _=> .none
 |m+1=>fun out10 v17=>wQ hd k I c0 c1 c4 l depth (lW hd k I c0 c1 c4 l depth m) out10 v17
def HB (hd:c8 S) (k:Nat) (I:LT×Int->OS S) (J0:(LT)->Int->OS S) (l:LT) (depth c0:Int) (c1:LC) (c4:Int):OS S:=J0 ([]:LT) 0
def DK (hd:c8 S) (k:Nat) (l:LT) (depth c0:Int) (c1:LC) (c4:Int) (I:LT×Int->OS S):OS S:=HB hd k I (fun out10 v17=>lW hd k I c0 c1 c4 l depth k out10 v17) l depth c0 c1 c4
def wR (hd:c8 S) (k:Nat) (I:LT×Int->OS S) (c0:Int) (c1:LC) (c4:Tm) (l:LT) (depth:Int) (rec0:(LT)->Int->OS S) (out10:LT) (v17:Int):OS S:=ab (decide ((v17:Int)<(l.length:Int))) (sf (af l v17) fun x1=>aa k (tG k v17 (ac c4)) fun r2=>hd (ac x1) (su .i64 (depth+r2)) c0 c1 fun r3=>ab (!(r3.2==0)) (I (([]:LT),r3.2)) (sf (aw 1099511627776 out10.length [(ac r3.1)].length) fun x4=>rec0 (out10++[(ac r3.1)]) (su .i64 (v17+1)))) (I (out10,0))
def lX (hd:c8 S) (k:Nat) (I:LT×Int->OS S) (c0:Int) (c1:LC) (c4:Tm) (l:LT) (depth:Int):Nat->(LT)->Int->OS S
 |0=>fun _ _=> .none
 |m+1=>fun out10 v17=>wR hd k I c0 c1 c4 l depth (lX hd k I c0 c1 c4 l depth m) out10 v17
def HC (hd:c8 S) (k:Nat) (I:LT×Int->OS S) (J0:(LT)->Int->OS S) (l:LT) (depth c0:Int) (c1:LC) (c4:Tm):OS S:=J0 ([]:LT) 0
def DL (hd:c8 S) (k:Nat) (l:LT) (depth c0:Int) (c1:LC) (c4:Tm) (I:LT×Int->OS S):OS S:=HC hd k I (fun out10 v17=>lX hd k I c0 c1 c4 l depth k out10 v17) l depth c0 c1 c4
def wS (hd:c8 S) (k:Nat) (I:Tm×Int->OS S) (c0:Int) (c1:LC) (t:Tm) (r1:LC×Int) (r2:LT×Int) (depth:Int) (rec0:Int->(LB)->Int->OS S) (arF:Int) (b8_5:LB) (v55:Int):OS S:=ab (decide ((v55:Int)<(t.sys.length:Int))) (sf (af t.sys v55) fun x3=>aa k (tF k x3.face depth c0 c1) fun r4=>ab (!(r4.2==0)) (I ((Tm.mk 0 0 alH [] [] []),r4.2)) (ab ((r4.1.length:Int)==0) (rec0 arF b8_5 (su .i64 (v55+1))) (aa k (DK hd k x3.kids depth c0 c1 arF) fun r5=>ab (!(r5.2==0)) (I ((Tm.mk 0 0 alH [] [] []),r5.2)) (sf (aw 1099511627776 b8_5.length [(Br.mk r4.1 r5.1)].length) fun x6=>rec0 arF (b8_5++[(Br.mk r4.1 r5.1)]) (su .i64 (v55+1)))))) (I ((Tm.mk t.kind t.n t.name r1.1 r2.1 b8_5),0))
def fV (hd:c8 S) (k:Nat) (I:Tm×Int->OS S) (c0:Int) (c1:LC) (t:Tm) (r1:LC×Int) (r2:LT×Int) (depth:Int):Nat->Int->(LB)->Int->OS S
 |0=>fun _ _ _=> .none
 |m+1=>fun arF b8_5 v55=>wS hd k I c0 c1 t r1 r2 depth (fV hd k I c0 c1 t r1 r2 depth m) arF b8_5 v55
def HF (hd:c8 S) (k:Nat) (I:Tm×Int->OS S) (J0:(LC×Int)->(LT×Int)->Int->(LB)->Int->OS S) (t:Tm) (depth c0:Int) (c1:LC):OS S:=aa k (yG k (ac t) depth c0 c1) fun r1=>ab (!(r1.2==0)) (I ((Tm.mk 0 0 alH [] [] []),r1.2)) (aa k (DL hd k t.kids depth c0 c1 (ac t)) fun r2=>ab (!(r2.2==0)) (I ((Tm.mk 0 0 alH [] [] []),r2.2)) (ab (t.kind==15) (J0 r1 r2 1 ([]:LB) 0) (J0 r1 r2 0 ([]:LB) 0)))
def d7:Nat->Tm->Int->Int->(LC)->(Tm×Int->OS S)->OS S
 |0=>fun _ _ _ _ _=> .none
 |k+1=>fun t depth c0 c1 I=>HF (d7 k) k I (fun r1 r2 arF b8_5 v55=>fV (d7 k) k I c0 c1 t r1 r2 depth k arF b8_5 v55) t depth c0 c1
def DE (k:Nat) (i:Int) (I:Int->OS S):OS S:=I i
def pk (k:Nat) (s i:Int) (I:Int->OS S):OS S:=aa k (nd k i) fun r1=>ab (!r1) (I (bj .and .u32 s 16777215)) (aa k (pn k i) fun r2=>sf (bR (0<=(su .u64 (su .i64 (i+1))))) fun x3=>sf (bR (0<=(su .u64 i))) fun x4=>I (bj .or .u32 (bj .and .u32 (bj .and .u32 s 16777215) r2) (su .u32 ((Int.fdiv (bj .and .u32 s 16777215) (2^min (arM (su .u64 (su .i64 (i+1)))) 32))*2^min (arM (su .u64 i)) 32))))
def wN (k:Nat) (I:LC×Int->OS S) (c0 depth:Int) (f:LC) (rec0:Int->(LC)->OS S) (v12:Int) (out7:LC):OS S:=ab (decide ((v12:Int)<(f.length:Int))) (sf (af f v12) fun x1=>aa k (pk k x1.pos (su .i64 (c0+depth))) fun r2=>aa k (pk k x1.neg (su .i64 (c0+depth))) fun r3=>sf (aw 1099511627776 out7.length [(Cl.mk r2 r3)].length) fun x4=>rec0 (su .i64 (v12+1)) (out7++[(Cl.mk r2 r3)])) (aa k (gy k out7) fun r5=>I (r5.1,r5.2))
def avL (k:Nat) (I:LC×Int->OS S) (c0 depth:Int) (f:LC):Nat->Int->(LC)->OS S
 |0=>fun _ _=> .none
 |m+1=>fun v12 out7=>wN k I c0 depth f (avL k I c0 depth f m) v12 out7
def Hx (k:Nat) (I:LC×Int->OS S) (J0:Int->(LC)->OS S) (f:LC) (depth c0:Int):OS S:=J0 0 ([]:LC)
def pc (k:Nat) (f:LC) (depth c0:Int) (I:LC×Int->OS S):OS S:=Hx k I (fun v12 out7=>avL k I c0 depth f k v12 out7) f depth c0
def yH (k:Nat) (t:Tm) (depth c0:Int) (I:LC×Int->OS S):OS S:=ab (t.kind==14) (aa k (pc k t.r depth c0) fun r1=>I (r1.1,r1.2)) (aa k (pc k t.r depth c0) fun r2=>I (r2.1,r2.2))
abbrev c_ (S:Type):=Tm->Int->Int->(Tm×Int->OS S)->OS S
def wO (hd:c_ S) (k:Nat) (I:LT×Int->OS S) (c0 c1:Int) (l:LT) (depth:Int) (rec0:(LT)->Int->OS S) (out10:LT) (v17:Int):OS S:=ab (decide ((v17:Int)<(l.length:Int))) (sf (af l v17) fun x1=>aa k (tH k v17 c1) fun r2=>hd (ac x1) (su .i64 (depth+r2)) c0 fun r3=>ab (!(r3.2==0)) (I (([]:LT),r3.2)) (sf (aw 1099511627776 out10.length [(ac r3.1)].length) fun x4=>rec0 (out10++[(ac r3.1)]) (su .i64 (v17+1)))) (I (out10,0))
def lU (hd:c_ S) (k:Nat) (I:LT×Int->OS S) (c0 c1:Int) (l:LT) (depth:Int):Nat->(LT)->Int->OS S
 |0=>fun _ _=> .none
 |m+1=>fun out10 v17=>wO hd k I c0 c1 l depth (lU hd k I c0 c1 l depth m) out10 v17
def Hz (hd:c_ S) (k:Nat) (I:LT×Int->OS S) (J0:(LT)->Int->OS S) (l:LT) (depth c0 c1:Int):OS S:=J0 ([]:LT) 0
def DI (hd:c_ S) (k:Nat) (l:LT) (depth c0 c1:Int) (I:LT×Int->OS S):OS S:=Hz hd k I (fun out10 v17=>lU hd k I c0 c1 l depth k out10 v17) l depth c0 c1
def wP (hd:c_ S) (k:Nat) (I:LT×Int->OS S) (c0:Int) (c1:Tm) (l:LT) (depth:Int) (rec0:(LT)->Int->OS S) (out10:LT) (v17:Int):OS S:=ab (decide ((v17:Int)<(l.length:Int))) (sf (af l v17) fun x1=>aa k (tG k v17 (ac c1)) fun r2=>hd (ac x1) (su .i64 (depth+r2)) c0 fun r3=>ab (!(r3.2==0)) (I (([]:LT),r3.2)) (sf (aw 1099511627776 out10.length [(ac r3.1)].length) fun x4=>rec0 (out10++[(ac r3.1)]) (su .i64 (v17+1)))) (I (out10,0))
def lV (hd:c_ S) (k:Nat) (I:LT×Int->OS S) (c0:Int) (c1:Tm) (l:LT) (depth:Int):Nat->(LT)->Int->OS S
 |0=>fun _ _=> .none
 |m+1=>fun out10 v17=>wP hd k I c0 c1 l depth (lV hd k I c0 c1 l depth m) out10 v17
def HA (hd:c_ S) (k:Nat) (I:LT×Int->OS S) (J0:(LT)->Int->OS S) (l:LT) (depth c0:Int) (c1:Tm):OS S:=J0 ([]:LT) 0
def DJ (hd:c_ S) (k:Nat) (l:LT) (depth c0:Int) (c1:Tm) (I:LT×Int->OS S):OS S:=HA hd k I (fun out10 v17=>lV hd k I c0 c1 l depth k out10 v17) l depth c0 c1
def wT (hd:c_ S) (k:Nat) (I:Tm×Int->OS S) (c0:Int) (t:Tm) (r1:LC×Int) (r2:LT×Int) (depth:Int) (rec0:Int->(LB)->Int->OS S) (arF:Int) (b8_5:LB) (v55:Int):OS S:=ab (decide ((v55:Int)<(t.sys.length:Int))) (sf (af t.sys v55) fun x3=>aa k (pc k x3.face depth c0) fun r4=>ab (!(r4.2==0)) (I ((Tm.mk 0 0 alH [] [] []),r4.2)) (ab ((r4.1.length:Int)==0) (rec0 arF b8_5 (su .i64 (v55+1))) (aa k (DI hd k x3.kids depth c0 arF) fun r5=>ab (!(r5.2==0)) (I ((Tm.mk 0 0 alH [] [] []),r5.2)) (sf (aw 1099511627776 b8_5.length [(Br.mk r4.1 r5.1)].length) fun x6=>rec0 arF (b8_5++[(Br.mk r4.1 r5.1)]) (su .i64 (v55+1)))))) (I ((Tm.mk t.kind t.n t.name r1.1 r2.1 b8_5),0))
def fW (hd:c_ S) (k:Nat) (I:Tm×Int->OS S) (c0:Int) (t:Tm) (r1:LC×Int) (r2:LT×Int) (depth:Int):Nat->Int->(LB)->Int->OS S
 |0=>fun _ _ _=> .none
 |m+1=>fun arF b8_5 v55=>wT hd k I c0 t r1 r2 depth (fW hd k I c0 t r1 r2 depth m) arF b8_5 v55
def HG (hd:c_ S) (k:Nat) (I:Tm×Int->OS S) (J0:(LC×Int)->(LT×Int)->Int->(LB)->Int->OS S) (t:Tm) (depth c0:Int):OS S:=aa k (yH k (ac t) depth c0) fun r1=>ab (!(r1.2==0)) (I ((Tm.mk 0 0 alH [] [] []),r1.2)) (aa k (DJ hd k t.kids depth c0 (ac t)) fun r2=>ab (!(r2.2==0)) (I ((Tm.mk 0 0 alH [] [] []),r2.2)) (ab (t.kind==15) (J0 r1 r2 1 ([]:LB) 0) (J0 r1 r2 0 ([]:LB) 0)))
def dT:Nat->Tm->Int->Int->(Tm×Int->OS S)->OS S
 |0=>fun _ _ _ _=> .none
 |k+1=>fun t depth c0 I=>HG (dT k) k I (fun r1 r2 arF b8_5 v55=>fW (dT k) k I c0 t r1 r2 depth k arF b8_5 v55) t depth c0
def m_ (k:Nat) (t:Tm) (i:Int) (a_r:LC) (I:Tm×Int->OS S):OS S:=aa k (DM k (ac t) i a_r) fun r1=>ab (!(r1==0)) (I ((Tm.mk 0 0 alH [] [] []),r1)) (aa k (jV k a_r i 1) fun r2=>ab (!(r2.2==0)) (I ((Tm.mk 0 0 alH [] [] []),r2.2)) (aa k (DF k i r2.1) fun r3=>d7 k (ac t) 0 r3.1 r3.2 fun r4=>ab (!(r4.2==0)) (I ((Tm.mk 0 0 alH [] [] []),r4.2)) (aa k (DE k i) fun r5=>dT k (ac r4.1) 0 r5 fun r6=>I ((ac r6.1),r6.2))))
def JL (k:Nat) (t:Tm) (a_r:LC) (c0:Int) (I:Tm×Int->OS S):OS S:=aa k (dG k c0) fun r1=>ab (!r1) (I ((Tm.mk 0 0 alH [] [] []),c0)) (aa k (m_ k (ac t) 0 a_r) fun r2=>aa k (asH k (ac r2.1) r2.2 c0) fun r3=>I ((ac r3.1),r3.2))
def JI (k:Nat) (t:Tm) (c0:Int) (I:Tm×Int->OS S):OS S:=aa k (au3 k) fun r1=>aa k (JL k (ac t) r1 c0) fun r2=>I ((ac r2.1),r2.2)
def zc (k:Nat) (kind:Int) (kids:LT) (I:Int×Int×BA×LT->OS S):OS S:=I (kind,0,alH,kids)
def aJ (k:Nat) (t:Tm) (c0:Int) (I:Tm×Bool×Int->OS S):OS S:=aa k (cS k t.sys) fun r1=>ab (decide ((r1:Int)<0)) (I ((Tm.mk 0 0 alH [] [] []),false,c0)) (sf (af t.sys r1) fun x2=>ab (t.kind==15) (sf (af x2.kids 0) fun x3=>aa k (JI k (ac x3) c0) fun r4=>I ((ac r4.1),true,r4.2)) (ab (t.kind==18) (sf (af x2.kids 0) fun x5=>aa k (zc k 9 [(ac x5)]) fun r6=>sf (af t.kids 0) fun x7=>aa k (zc k 6 [(Tm.mk r6.1 r6.2.1 r6.2.2.1 [] r6.2.2.2 []),(ac x7)]) fun r8=>I ((Tm.mk r8.1 r8.2.1 r8.2.2.1 [] r8.2.2.2 []),true,c0)) (ab (t.kind==16) (sf (af x2.kids 0) fun x9=>I ((ac x9),true,c0)) (ab (t.kind==17) (sf (af x2.kids 0) fun x10=>I ((ac x10),true,c0)) (I ((Tm.mk 0 0 alH [] [] []),false,c0))))))
def aW (k:Nat) (a_r:LC) (I:Int->OS S):OS S:=ab ((a_r.length:Int)==0) (I 0) (ab ((a_r.length:Int)==1) (sf (af a_r 0) fun x1=>ab ((x1.pos==0)&&((x1.neg==0)&&true)) (I 1) (I (-1))) (I (-1)))
def cA (k:Nat) (t:Tm) (c0:Int) (I:Tm×Bool×Int->OS S):OS S:=aa k (aW k t.r) fun r1=>ab (decide ((r1:Int)>=0)) (sf (af t.kids (su .i64 (1+r1))) fun x2=>I ((ac x2),true,c0)) (sf (af t.kids 0) fun x3=>ab (x3.kind==12) (sf (af t.kids 0) fun x4=>sf (af x4.kids 0) fun x5=>aa k (JL k (ac x5) t.r c0) fun r6=>I ((ac r6.1),true,r6.2)) (I ((Tm.mk 0 0 alH [] [] []),false,c0)))
def bA (k:Nat) (t:Tm) (I:Tm×Bool->OS S):OS S:=aa k (aW k t.r) fun r1=>ab (decide ((r1:Int)<0)) (I ((Tm.mk 0 0 alH [] [] []),false)) (ab (t.kind==21) (aa k (zc k 20 ([]:LT)) fun r2=>I ((Tm.mk r2.1 r2.2.1 r2.2.2.1 [] r2.2.2.2 []),true)) (ab (r1==0) (aa k (zc k 24 ([]:LT)) fun r3=>I ((Tm.mk r3.1 r3.2.1 r3.2.2.1 [] r3.2.2.2 []),true)) (aa k (zc k 25 ([]:LT)) fun r4=>I ((Tm.mk r4.1 r4.2.1 r4.2.2.1 [] r4.2.2.2 []),true))))
def tO (k:Nat) (kind:Int) (a_r:LC) (kids:LT) (I:Int×Int×BA×LC×LT->OS S):OS S:=I (kind,0,alH,a_r,kids)
def axm (k:Nat) (t:Tm) (I:Tm×Bool->OS S):OS S:=sf (af t.kids 3) fun x1=>ab (x1.kind==20) (sf (af t.kids 1) fun x2=>I ((ac x2),true)) (ab (x1.kind==21) (sf (af t.kids 2) fun x3=>sf (af t.kids 1) fun x4=>sf (af t.kids 1) fun x5=>aa k (tO k 13 x1.r [(ac x3),(ac x4),(ac x5)]) fun r6=>I ((Tm.mk r6.1 r6.2.1 r6.2.2.1 r6.2.2.2.1 r6.2.2.2.2 []),true)) (I ((Tm.mk 0 0 alH [] [] []),false)))
def axn (k:Nat) (t:Tm) (I:Tm×Bool->OS S):OS S:=sf (af t.kids 4) fun x1=>ab (x1.kind==24) (sf (af t.kids 1) fun x2=>I ((ac x2),true)) (ab (x1.kind==25) (sf (af t.kids 2) fun x3=>I ((ac x3),true)) (ab (x1.kind==26) (sf (af t.kids 3) fun x4=>sf (af x1.kids 0) fun x5=>aa k (zc k 6 [(ac x4),(ac x5)]) fun r6=>sf (af t.kids 1) fun x7=>sf (af t.kids 2) fun x8=>aa k (tO k 13 x1.r [(Tm.mk r6.1 r6.2.1 r6.2.2.1 [] r6.2.2.2 []),(ac x7),(ac x8)]) fun r9=>I ((Tm.mk r9.1 r9.2.1 r9.2.2.1 r9.2.2.2.1 r9.2.2.2.2 []),true)) (I ((Tm.mk 0 0 alH [] [] []),false))))
def cD (k:Nat) (t:Tm) (c0:Int) (I:Tm×Bool×Int->OS S):OS S:=ab (t.kind==6) (sf (af t.kids 0) fun x1=>ab (x1.kind==5) (sf (af t.kids 0) fun x2=>sf (af x2.kids 0) fun x3=>sf (af t.kids 1) fun x4=>aa k (za k (ac x3) (ac x4) c0) fun r5=>I ((ac r5.1),true,r5.2)) (aa k (aJ k (ac t) c0) fun r6=>I ((ac r6.1),r6.2.1,r6.2.2))) (ab (t.kind==9) (sf (af t.kids 0) fun x7=>ab (x7.kind==8) (sf (af t.kids 0) fun x8=>sf (af x8.kids (su .i64 (t.kind-9))) fun x9=>I ((ac x9),true,c0)) (aa k (aJ k (ac t) c0) fun r10=>I ((ac r10.1),r10.2.1,r10.2.2))) (ab (t.kind==10) (sf (af t.kids 0) fun x11=>ab (x11.kind==8) (sf (af t.kids 0) fun x12=>sf (af x12.kids (su .i64 (t.kind-9))) fun x13=>I ((ac x13),true,c0)) (aa k (aJ k (ac t) c0) fun r14=>I ((ac r14.1),r14.2.1,r14.2.2))) (ab (t.kind==13) (aa k (cA k (ac t) c0) fun r15=>I ((ac r15.1),r15.2.1,r15.2.2)) (ab (t.kind==21) (aa k (bA k (ac t)) fun r16=>I ((ac r16.1),r16.2,c0)) (ab (t.kind==26) (aa k (bA k (ac t)) fun r17=>I ((ac r17.1),r17.2,c0)) (ab (t.kind==22) (aa k (axm k (ac t)) fun r18=>I ((ac r18.1),r18.2,c0)) (ab (t.kind==27) (aa k (axn k (ac t)) fun r19=>I ((ac r19.1),r19.2,c0)) (ab (t.kind==28) (sf (af t.kids 0) fun x20=>I ((ac x20),true,c0)) (ab (t.kind==14) (sf (af t.kids 1) fun x21=>aa k (aW k t.r) fun r22=>I ((ac x21),r22==1,c0)) (ab (t.kind==18) (aa k (aJ k (ac t) c0) fun r23=>ab (r23.2.1) (I ((ac r23.1),true,r23.2.2)) (sf (af t.kids 0) fun x24=>ab (x24.kind==17) (sf (af t.kids 0) fun x25=>sf (af x25.kids 0) fun x26=>I ((ac x26),true,r23.2.2)) (aa k (aJ k (ac t) r23.2.2) fun r27=>I ((ac r27.1),r27.2.1,r27.2.2)))) (aa k (aJ k (ac t) c0) fun r28=>I ((ac r28.1),r28.2.1,r28.2.2))))))))))))
def ly (k:Nat) (t:Tm) (c0:Int) (I:Tm×Bool×Int×Int->OS S):OS S:=aa k (asi k (ac t)) fun r1=>aa k (asH k (ac t) r1 c0) fun r2=>dJ k (ac r2.1) fun r3=>aa k (dG k r2.2) fun r4=>I ((ac r3),r4,r2.2,r2.2)
def axl (k:Nat) (t:Tm) (I:Tm×Bool×Int->OS S):OS S:=aa k (asi k (ac t)) fun r1=>ab (!(r1==0)) (I ((Tm.mk 0 0 alH [] [] []),false,r1)) (dJ k (ac t) fun r2=>aa k (cD k (ac r2) 0) fun r3=>ab (!r3.2.1) (I ((Tm.mk 0 0 alH [] [] []),false,0)) (aa k (ly k (ac r3.1) r3.2.2) fun r4=>I ((ac r4.1),r4.2.1,r4.2.2.1)))
def anX (k:Nat) (t:Tm) (vars dims:Int) (I:Int->OS S):OS S:=ab (decide ((vars:Int)<0)) (I 2) (ab (decide ((dims:Int)<0)) (I 2) (ab (decide ((dims:Int)>24)) (I 2) (aa k (zD k (ac t)) fun r1=>ab (!(r1==0)) (I r1) (ic k (ac t) vars dims true fun r2=>ab (!r2) (I 100) (I 0)))))
def cr (k:Nat) (I:Tm×Bool->OS S) (t:Tm) (defs:List Df) (rec0:Int->OS S) (v14:Int):OS S:=ab (decide ((v14:Int)<(defs.length:Int))) (sf (af defs v14) fun x1=>ab (x1.name==t.name) (dJ k (ac x1.body) fun r2=>aa k (anX k (ac x1.body) 0 0) fun r3=>I ((ac r2),r3==0)) (rec0 (su .i64 (v14+1)))) (I ((Tm.mk 0 0 alH [] [] []),false))
def bM (k:Nat) (I:Tm×Bool->OS S) (t:Tm) (defs:List Df):Nat->Int->OS S
 |0=>fun _=> .none
 |m+1=>fun v14=>cr k I t defs (bM k I t defs m) v14
def aAq (k:Nat) (I:Tm×Bool->OS S) (J0:Int->OS S) (defs:List Df) (t:Tm):OS S:=ab (!(t.kind==2)) (I ((Tm.mk 0 0 alH [] [] []),false)) (J0 0)
def cR (k:Nat) (defs:List Df) (t:Tm) (I:Tm×Bool->OS S):OS S:=aAq k I (fun v14=>bM k I t defs k v14) defs t
def arj (k:Nat) (kind:Int) (kids:LT) (I:Int×Int×BA×LT->OS S):OS S:=I (kind,0,alH,kids)
def avu (k:Nat) (sys:LB) (I:Int×Int×BA×LT×LB->OS S):OS S:=aa k (arj k 3 ([]:LT)) fun r1=>aa k (arj k 3 ([]:LT)) fun r2=>I (15,0,alH,[(Tm.mk r1.1 r1.2.1 r1.2.2.1 [] r1.2.2.2 []),(Tm.mk r2.1 r2.2.1 r2.2.2.1 [] r2.2.2.2 [])],sys)
def iZ (k:Nat) (a_e c0:Int) (I:Int->OS S):OS S:=ab (c0==0) (I a_e) (I c0)
def wL (k:Nat) (I:Int->OS S) (l:LT) (rec0:Int->Int->OS S) (aty v10:Int):OS S:=ab (decide ((v10:Int)<(l.length:Int))) (sf (af l v10) fun x1=>aa k (asi k (ac x1)) fun r2=>aa k (iZ k r2 aty) fun r3=>rec0 r3 (su .i64 (v10+1))) (I aty)
def pY (k:Nat) (I:Int->OS S) (l:LT):Nat->Int->Int->OS S
 |0=>fun _ _=> .none
 |m+1=>fun aty v10=>wL k I l (pY k I l m) aty v10
def Hs (k:Nat) (I:Int->OS S) (J0:Int->Int->OS S) (l:LT):OS S:=J0 0 0
def m9 (k:Nat) (l:LT) (I:Int->OS S):OS S:=Hs k I (fun aty v10=>pY k I l k aty v10) l
def de (k:Nat) (c0:Int) (I:Bool->OS S):OS S:=I (c0==0)
def arP (k:Nat) (t:Tm) (vars dims c0:Int) (I:Tm×Int->OS S):OS S:=aa k (de k c0) fun r1=>ab (!r1) (I ((Tm.mk 0 0 alH [] [] []),c0)) (aa k (lu k (ac t) vars dims) fun r2=>aa k (iZ k r2.2 c0) fun r3=>I ((ac r2.1),r3))
def eQ (k:Nat) (t:Tm) (c0:Int) (I:Tm×Int×Int->OS S):OS S:=aa k (de k c0) fun r1=>ab (r1) (aa k (asi k (ac t)) fun r2=>aa k (iZ k r2 c0) fun r3=>aa k (de k r3) fun r4=>ab (!r4) (I ((Tm.mk 0 0 alH [] [] []),r3,r3)) (I ((ac t),0,r3))) (aa k (de k c0) fun r5=>ab (!r5) (I ((Tm.mk 0 0 alH [] [] []),c0,c0)) (I ((ac t),0,c0)))
def tA (k:Nat) (f:LC) (c0:Int) (I:LC×Int->OS S):OS S:=aa k (de k c0) fun r1=>ab (!r1) (I (([]:LC),c0)) (aa k (jV k f 0 1) fun r2=>aa k (iZ k r2.2 c0) fun r3=>I (r2.1,r3))
def yX (k:Nat) (c0:Int) (c1:Tm) (c2:Int) (I:Pan Int Tm->OS S):OS S:=dk k 0 c0 (ac c1) 0 (if 24<c2 then 24 else c2) fun r2=>Pan.elim r2 (fun r2=>I (.ok (ac r2))) (fun e3=>I (.pan e3))
def xa (k:Nat) (I:Tm×Int->OS S) (c0:Int) (c1:Tm) (c2:Int) (numbers:List Int) (rec0:Int->OS S) (v19:Int):OS S:=ab (decide ((v19:Int)<(numbers.length:Int))) (sf (af numbers v19) fun x2=>ab (decide ((x2:Int)<0)) (I ((Tm.mk 0 0 alH [] [] []),2)) (rec0 (su .i64 (v19+1)))) (aa k (yX k c0 (ac c1) c2) fun r4=>Pan.elim r4 (fun r4=>I ((ac r4),0)) (fun e5=>I ((Tm.mk 0 0 alH [] [] []),e5)))
def nC (k:Nat) (I:Tm×Int->OS S) (c0:Int) (c1:Tm) (c2:Int) (numbers:List Int):Nat->Int->OS S
 |0=>fun _=> .none
 |m+1=>fun v19=>xa k I c0 c1 c2 numbers (nC k I c0 c1 c2 numbers m) v19
def BQ (k:Nat) (I:Tm×Int->OS S) (J0:Int->OS S) (t:Tm) (numbers:List Int) (c0:Int) (c1:Tm) (c2:Int):OS S:=aa k (asi k (ac t)) fun r1=>ab (!(r1==0)) (I ((Tm.mk 0 0 alH [] [] []),r1)) (J0 0)
def yZ (k:Nat) (t:Tm) (numbers:List Int) (c0:Int) (c1:Tm) (c2:Int) (I:Tm×Int->OS S):OS S:=BQ k I (fun v19=>nC k I c0 c1 c2 numbers k v19) t numbers c0 c1 c2
def lv (k:Nat) (t:Tm) (a_from a_by:Int) (I:Tm×Int->OS S):OS S:=aa k (yZ k (ac t) [a_from,a_by] a_by (ac t) a_from) fun r1=>I ((ac r1.1),r1.2)
def lr (k:Nat) (line:Tm) (a_r:LC) (c0:Int) (I:Tm×Int->OS S):OS S:=aa k (de k c0) fun r1=>ab (!r1) (I ((Tm.mk 0 0 alH [] [] []),c0)) (aa k (lv k (ac line) 1 2) fun r2=>aa k (iZ k r2.2 c0) fun r3=>aa k (de k r3) fun r4=>ab (!r4) (I ((Tm.mk 0 0 alH [] [] []),r3)) (aa k (m_ k (ac r2.1) 0 a_r) fun r5=>aa k (iZ k r5.2 r3) fun r6=>I ((ac r5.1),r6)))
def oQ (k:Nat) (I:Tm×Int->OS S) (a:Tm) (r5:Int×Int×BA×LT) (sys:LB) (rec0:Int->(LB)->Int->OS S) (arC:Int) (b9_5:LB) (v29:Int):OS S:=ab (decide ((v29:Int)<(sys.length:Int))) (sf (af sys v29) fun x6=>aa k (de k arC) fun r7=>ab (!r7) (aa k (arP k (ac a) 0 2 arC) fun r8=>sf (aw 1099511627776 b9_5.length [(Br.mk [(Cl.mk 0 1)] [(ac r8.1)])].length) fun x9=>aa k (eQ k (Tm.mk r5.1 r5.2.1 r5.2.2.1 [] r5.2.2.2 (b9_5++[(Br.mk [(Cl.mk 0 1)] [(ac r8.1)])])) r8.2) fun r10=>I ((ac r10.1),r10.2.1)) (aa k (tA k x6.face arC) fun r11=>sf (af x6.kids 0) fun x12=>aa k (lr k (ac x12) [(Cl.mk 3 0)] r11.2) fun r13=>sf (aw 1099511627776 b9_5.length [(Br.mk r11.1 [(ac r13.1)])].length) fun x14=>rec0 r13.2 (b9_5++[(Br.mk r11.1 [(ac r13.1)])]) (su .i64 (v29+1)))) (aa k (arP k (ac a) 0 2 arC) fun r15=>sf (aw 1099511627776 b9_5.length [(Br.mk [(Cl.mk 0 1)] [(ac r15.1)])].length) fun x16=>aa k (eQ k (Tm.mk r5.1 r5.2.1 r5.2.2.1 [] r5.2.2.2 (b9_5++[(Br.mk [(Cl.mk 0 1)] [(ac r15.1)])])) r15.2) fun r17=>I ((ac r17.1),r17.2.1))
def gM (k:Nat) (I:Tm×Int->OS S) (a:Tm) (r5:Int×Int×BA×LT) (sys:LB):Nat->Int->(LB)->Int->OS S
 |0=>fun _ _ _=> .none
 |m+1=>fun arC b9_5 v29=>oQ k I a r5 sys (gM k I a r5 sys m) arC b9_5 v29
def Hr (k:Nat) (I:Tm×Int->OS S) (J0:(Int×Int×BA×LT)->Int->(LB)->Int->OS S) (t a:Tm) (sys:LB):OS S:=aa k (avu k sys) fun r1=>aa k (m9 k [(ac t),(ac a),(Tm.mk r1.1 r1.2.1 r1.2.2.1 [] r1.2.2.2.1 r1.2.2.2.2)]) fun r2=>aa k (arP k (ac t) 0 1 r2) fun r3=>aa k (arP k (ac a) 0 1 r3.2) fun r4=>aa k (arj k 15 [(ac r3.1),(ac r4.1)]) fun r5=>J0 r5 r4.2 ([]:LB) 0
def yy (k:Nat) (t a:Tm) (sys:LB) (I:Tm×Int->OS S):OS S:=Hr k I (fun r5 arC b9_5 v29=>gM k I a r5 sys k arC b9_5 v29) t a sys
def y_ (k:Nat) (t a:Tm) (sys:LB) (c0:Int) (I:Tm×Int->OS S):OS S:=aa k (dG k c0) fun r1=>ab (!r1) (I ((Tm.mk 0 0 alH [] [] []),c0)) (aa k (yy k (ac t) (ac a) sys) fun r2=>aa k (asH k (ac r2.1) r2.2 c0) fun r3=>I ((ac r3.1),r3.2))
def yY (k:Nat) (c0:Int) (c1:Tm) (c2:Int) (I:Pan Int Tm->OS S):OS S:=dk k c0 0 (ac c1) (if 2000000000<c2 then 2000000000 else c2) 0 fun r2=>Pan.elim r2 (fun r2=>I (.ok (ac r2))) (fun e3=>I (.pan e3))
def xb (k:Nat) (I:Tm×Int->OS S) (c0:Int) (c1:Tm) (c2:Int) (numbers:List Int) (rec0:Int->OS S) (v19:Int):OS S:=ab (decide ((v19:Int)<(numbers.length:Int))) (sf (af numbers v19) fun x2=>ab (decide ((x2:Int)<0)) (I ((Tm.mk 0 0 alH [] [] []),2)) (rec0 (su .i64 (v19+1)))) (aa k (yY k c0 (ac c1) c2) fun r4=>Pan.elim r4 (fun r4=>I ((ac r4),0)) (fun e5=>I ((Tm.mk 0 0 alH [] [] []),e5)))
def nD (k:Nat) (I:Tm×Int->OS S) (c0:Int) (c1:Tm) (c2:Int) (numbers:List Int):Nat->Int->OS S
 |0=>fun _=> .none
 |m+1=>fun v19=>xb k I c0 c1 c2 numbers (nD k I c0 c1 c2 numbers m) v19
def BR (k:Nat) (I:Tm×Int->OS S) (J0:Int->OS S) (t:Tm) (numbers:List Int) (c0:Int) (c1:Tm) (c2:Int):OS S:=aa k (asi k (ac t)) fun r1=>ab (!(r1==0)) (I ((Tm.mk 0 0 alH [] [] []),r1)) (J0 0)
def axS (k:Nat) (t:Tm) (numbers:List Int) (c0:Int) (c1:Tm) (c2:Int) (I:Tm×Int->OS S):OS S:=BR k I (fun v19=>nD k I c0 c1 c2 numbers k v19) t numbers c0 c1 c2
def avD (k:Nat) (t:Tm) (a_from a_by:Int) (I:Tm×Int->OS S):OS S:=aa k (axS k (ac t) [a_from,a_by,su .i64 (1000000-a_by)] a_by (ac t) a_from) fun r1=>I ((ac r1.1),r1.2)
def y8 (k:Nat) (t:Tm) (vars dims c0:Int) (I:Tm×Int->OS S):OS S:=aa k (dG k c0) fun r1=>ab (!r1) (I ((Tm.mk 0 0 alH [] [] []),c0)) (aa k (avD k (ac t) 1 vars) fun r2=>aa k (asH k (ac r2.1) r2.2 c0) fun r3=>aa k (dG k r3.2) fun r4=>ab (!r4) (I ((Tm.mk 0 0 alH [] [] []),r3.2)) (aa k (lv k (ac r3.1) 0 dims) fun r5=>aa k (asH k (ac r5.1) r5.2 r3.2) fun r6=>I ((ac r6.1),r6.2)))
def zb (k:Nat) (t:Tm) (vars dims c0:Int) (I:Tm×Int->OS S):OS S:=aa k (dG k c0) fun r1=>ab (!r1) (I ((Tm.mk 0 0 alH [] [] []),c0)) (aa k (lu k (ac t) vars dims) fun r2=>aa k (asH k (ac r2.1) r2.2 c0) fun r3=>I ((ac r3.1),r3.2))
def oS (k:Nat) (I:Int×Int×BA×LT×Int->OS S) (c0:Tm) (c1:Int) (a_x:Tm) (a_by:Int) (rec0:Int->(LT)->Int->OS S) (aro:Int) (kids10:LT) (v20:Int):OS S:=ab (decide ((v20:Int)<((List.drop (arM 1) (List.take (arM c1) c0.kids)).length:Int))) (sf (af (List.drop (arM 1) (List.take (arM c1) c0.kids)) v20) fun x2=>ab (decide ((a_by:Int)>0)) (aa k (zb k (ac x2) 0 a_by aro) fun r3=>sf (aw 1099511627776 kids10.length [(ac r3.1)].length) fun x4=>rec0 r3.2 (kids10++[(ac r3.1)]) (su .i64 (v20+1))) (sf (aw 1099511627776 kids10.length [(ac x2)].length) fun x5=>rec0 aro (kids10++[(ac x2)]) (su .i64 (v20+1)))) (sf (aw 1099511627776 kids10.length [(ac a_x)].length) fun x6=>aa k (zc k c0.kind (kids10++[(ac a_x)])) fun r7=>I (r7.1,r7.2.1,r7.2.2.1,r7.2.2.2,aro))
def auv (k:Nat) (I:Int×Int×BA×LT×Int->OS S) (c0:Tm) (c1:Int) (a_x:Tm) (a_by:Int):Nat->Int->(LT)->Int->OS S
 |0=>fun _ _ _=> .none
 |m+1=>fun aro kids10 v20=>oS k I c0 c1 a_x a_by (auv k I c0 c1 a_x a_by m) aro kids10 v20
def BP (k:Nat) (I:Int×Int×BA×LT×Int->OS S) (J0:Int->(LT)->Int->OS S) (p:Tm) (a_by:Int) (a_x c0:Tm) (c1 c3:Int):OS S:=sf (bR (0<=(1:Int)/\(1:Int)<=c1/\c1<=(c0.kids.length:Int))) fun x1=>J0 c3 [(ac p)] 0
def nc (k:Nat) (p:Tm) (a_by:Int) (a_x c0:Tm) (c1 c3:Int) (I:Int×Int×BA×LT×Int->OS S):OS S:=BP k I (fun aro kids10 v20=>auv k I c0 c1 a_x a_by k aro kids10 v20) p a_by a_x c0 c1 c3
def nf (k:Nat) (f:LC) (kids:LT) (I:(Br Tm)->OS S):OS S:=I (Br.mk f kids)
def yz (k:Nat) (line:Tm) (c0:Int) (I:Tm×Int->OS S):OS S:=aa k (de k c0) fun r1=>ab (!r1) (I ((Tm.mk 0 0 alH [] [] []),c0)) (aa k (au3 k) fun r2=>aa k (m_ k (ac line) 0 r2) fun r3=>aa k (iZ k r3.2 c0) fun r4=>I ((ac r3.1),r4))
def oP (k:Nat) (I:Tm×Int->OS S) (r3:Tm) (r9:Int×Int×BA×LT) (r6:Tm) (rec0:Int->(LB)->Int->OS S) (arC:Int) (b9_5:LB) (v38:Int):OS S:=ab (decide ((v38:Int)<(r6.sys.length:Int))) (sf (af r6.sys v38) fun x10=>aa k (de k arC) fun r11=>ab (!r11) (aa k (eQ k (Tm.mk r9.1 r9.2.1 r9.2.2.1 [] r9.2.2.2 b9_5) arC) fun r12=>I ((ac r12.1),r12.2.1)) (aa k (lr k (ac r3) [(Cl.mk 1 0),(Cl.mk 2 0)] arC) fun r13=>sf (af x10.kids 0) fun x14=>aa k (arj k 14 [(ac r13.1),(ac x14)]) fun r15=>sf (aw 1099511627776 b9_5.length [(Br.mk x10.face [(Tm.mk r15.1 r15.2.1 r15.2.2.1 [(Cl.mk 1 0)] r15.2.2.2 [])])].length) fun x16=>rec0 r13.2 (b9_5++[(Br.mk x10.face [(Tm.mk r15.1 r15.2.1 r15.2.2.1 [(Cl.mk 1 0)] r15.2.2.2 [])])]) (su .i64 (v38+1)))) (aa k (eQ k (Tm.mk r9.1 r9.2.1 r9.2.2.1 [] r9.2.2.2 b9_5) arC) fun r17=>I ((ac r17.1),r17.2.1))
def ko (k:Nat) (I:Tm×Int->OS S) (r3:Tm) (r9:Int×Int×BA×LT) (r6:Tm):Nat->Int->(LB)->Int->OS S
 |0=>fun _ _ _=> .none
 |m+1=>fun arC b9_5 v38=>oP k I r3 r9 r6 (ko k I r3 r9 r6 m) arC b9_5 v38
def Hq (k:Nat) (I:Tm×Int->OS S) (J0:Tm->(Int×Int×BA×LT)->Tm->Int->(LB)->Int->OS S) (line a:Tm) (sys:LB):OS S:=aa k (avu k sys) fun r1=>aa k (m9 k [(ac line),(ac a),(Tm.mk r1.1 r1.2.1 r1.2.2.1 [] r1.2.2.2.1 r1.2.2.2.2)]) fun r2=>dJ k (ac line) fun r3=>dJ k (ac a) fun r4=>aa k (avu k sys) fun r5=>dJ k (Tm.mk r5.1 r5.2.1 r5.2.2.1 [] r5.2.2.2.1 r5.2.2.2.2) fun r6=>aa k (yz k (ac r3) r2) fun r7=>aa k (arj k 14 [(ac r3),(ac r4)]) fun r8=>aa k (arj k 15 [(ac r7.1),(Tm.mk r8.1 r8.2.1 r8.2.2.1 [] r8.2.2.2 [])]) fun r9=>J0 r3 r9 r6 r7.2 ([]:LB) 0
def yx (k:Nat) (line a:Tm) (sys:LB) (I:Tm×Int->OS S):OS S:=Hq k I (fun r3 r9 r6 arC b9_5 v38=>ko k I r3 r9 r6 k arC b9_5 v38) line a sys
def y9 (k:Nat) (line a:Tm) (sys:LB) (c0:Int) (I:Tm×Int->OS S):OS S:=aa k (dG k c0) fun r1=>ab (!r1) (I ((Tm.mk 0 0 alH [] [] []),c0)) (aa k (yx k (ac line) (ac a) sys) fun r2=>aa k (asH k (ac r2.1) r2.2 c0) fun r3=>I ((ac r3.1),r3.2))
def oR (k:Nat) (I:Tm×Bool×Int->OS S) (r3:Tm) (r9 r10:Tm×Int) (r13:Int×Int×BA×LT×Int) (t x4:Tm) (rec1:Int->(LB)->Int->OS S) (as3:Int) (sys14:LB) (v90:Int):OS S:=ab (decide ((v90:Int)<(x4.sys.length:Int))) (sf (af x4.sys v90) fun x14=>sf (af x14.kids 0) fun x15=>aa k (nc k (ac r9.1) 1 (ac x15) (ac r3) (su .i64 ((t.kids.length:Int)-1)) as3) fun r16=>aa k (nf k x14.face [(Tm.mk r16.1 r16.2.1 r16.2.2.1 [] r16.2.2.2.1 [])]) fun r17=>sf (aw 1099511627776 sys14.length [r17].length) fun x18=>rec1 r16.2.2.2.2 (sys14++[r17]) (su .i64 (v90+1))) (aa k (y9 k (ac r10.1) (Tm.mk r13.1 r13.2.1 r13.2.2.1 [] r13.2.2.2.1 []) sys14 as3) fun r19=>aa k (ly k (ac r19.1) r19.2) fun r20=>I ((ac r20.1),r20.2.1,r20.2.2.1))
def fX (k:Nat) (I:Tm×Bool×Int->OS S) (r3:Tm) (r9 r10:Tm×Int) (r13:Int×Int×BA×LT×Int) (t x4:Tm):Nat->Int->(LB)->Int->OS S
 |0=>fun _ _ _=> .none
 |m+1=>fun as3 sys14 v90=>oR k I r3 r9 r10 r13 t x4 (fX k I r3 r9 r10 r13 t x4 m) as3 sys14 v90
def w_ (k:Nat) (I:Tm×Bool×Int->OS S) (t:Tm) (J1:Tm->(Tm×Int)->(Tm×Int)->(Int×Int×BA×LT×Int)->Tm->Int->(LB)->Int->OS S):OS S:=dJ k (ac t) fun r3=>sf (af r3.kids (su .i64 ((t.kids.length:Int)-1))) fun x4=>sf (af x4.kids 0) fun x5=>sf (af x4.kids 1) fun x6=>aa k (y_ k (ac x5) (ac x6) x4.sys 0) fun r7=>sf (af r3.kids 0) fun x8=>aa k (y8 k (ac x8) 0 1 r7.2) fun r9=>aa k (za k (ac r9.1) (ac r7.1) r9.2) fun r10=>sf (af r3.kids 0) fun x11=>sf (af x4.kids 1) fun x12=>aa k (nc k (ac x11) 0 (ac x12) (ac r3) (su .i64 ((t.kids.length:Int)-1)) r10.2) fun r13=>J1 r3 r9 r10 r13 x4 r13.2.2.2.2 ([]:LB) 0
def l6 (k:Nat) (I:Tm×Bool×Int->OS S) (t:Tm):Nat->OS S
 |0=> .none
 |_+1=>w_ k I t (fun r3 r9 r10 r13 x4 as3 sys14 v90=>fX k I r3 r9 r10 r13 t x4 k as3 sys14 v90)
def HU (k:Nat) (I:Tm×Bool×Int->OS S) (J0:OS S) (t:Tm):OS S:=aa k (asi k (ac t)) fun r1=>ab (!(r1==0)) (I ((Tm.mk 0 0 alH [] [] []),false,r1)) (ab (!(t.kind==22)) (ab (!(t.kind==27)) (I ((Tm.mk 0 0 alH [] [] []),false,0)) (sf (af t.kids (su .i64 ((t.kids.length:Int)-1))) fun x2=>ab (!(x2.kind==15)) (I ((Tm.mk 0 0 alH [] [] []),false,0)) (J0))) (sf (af t.kids (su .i64 ((t.kids.length:Int)-1))) fun x21=>ab (!(x21.kind==15)) (I ((Tm.mk 0 0 alH [] [] []),false,0)) (J0)))
def tL (k:Nat) (t:Tm) (I:Tm×Bool×Int->OS S):OS S:=HU k I (l6 k I t k) t
def au5 (k:Nat) (a_n:Int) (I:Int×Int×BA->OS S):OS S:=I (1,a_n,alH)
def aw2 (k:Nat) (I:Int->OS S) (l:List (LC)) (rec0:Int->OS S) (v7:Int):OS S:=ab (decide ((v7:Int)<(l.length:Int))) (sf (af l v7) fun x1=>aa k (pd k x1) fun r2=>ab (!r2) (I 2) (rec0 (su .i64 (v7+1)))) (I 0)
def avO (k:Nat) (I:Int->OS S) (l:List (LC)):Nat->Int->OS S
 |0=>fun _=> .none
 |m+1=>fun v7=>aw2 k I l (avO k I l m) v7
def az8 (k:Nat) (I:Int->OS S) (J0:Int->OS S) (l:List (LC)):OS S:=J0 0
def axw (k:Nat) (l:List (LC)) (I:Int->OS S):OS S:=az8 k I (fun v7=>avO k I l k v7) l
def axv (k:Nat) (f g:LC) (I:LC×Int->OS S):OS S:=aa k (axw k [f,g]) fun r1=>ab (!(r1==0)) (I (([]:LC),r1)) (aa k (yL k f g) fun r2=>I (r2.1,r2.2))
def auH (k:Nat) (f g:LC) (c0:Int) (I:LC×Int->OS S):OS S:=aa k (de k c0) fun r1=>ab (!r1) (I (([]:LC),c0)) (aa k (axv k f g) fun r2=>aa k (iZ k r2.2 c0) fun r3=>I (r2.1,r3))
def awn (k:Nat) (line:Tm) (phi:LC) (a:Tm) (a_end:Cl) (a_r:LC) (I:Tm×Int->OS S):OS S:=aa k (m9 k [(ac line),(ac a)]) fun r1=>aa k (pd k phi) fun r2=>ab (!r2) (aa k (iZ k 2 r1) fun r3=>aa k (tA k phi r3) fun r4=>aa k (auH k r4.1 [a_end] r4.2) fun r5=>aa k (lr k (ac line) a_r r5.2) fun r6=>aa k (arP k (ac a) 0 1 r6.2) fun r7=>aa k (arj k 14 [(ac r6.1),(ac r7.1)]) fun r8=>aa k (eQ k (Tm.mk r8.1 r8.2.1 r8.2.2.1 r5.1 r8.2.2.2 []) r7.2) fun r9=>I ((ac r9.1),r9.2.1)) (aa k (tA k phi r1) fun r10=>aa k (auH k r10.1 [a_end] r10.2) fun r11=>aa k (lr k (ac line) a_r r11.2) fun r12=>aa k (arP k (ac a) 0 1 r12.2) fun r13=>aa k (arj k 14 [(ac r12.1),(ac r13.1)]) fun r14=>aa k (eQ k (Tm.mk r14.1 r14.2.1 r14.2.2.1 r11.1 r14.2.2.2 []) r13.2) fun r15=>I ((ac r15.1),r15.2.1))
def axo (k:Nat) (line:Tm) (phi:LC) (a:Tm) (I:Tm×Int->OS S):OS S:=aa k (awn k (ac line) phi (ac a) (Cl.mk 1 0) [(Cl.mk 0 1),(Cl.mk 2 0)]) fun r1=>I ((ac r1.1),r1.2)
def axU (k:Nat) (line:Tm) (phi:LC) (a:Tm) (c0:Int) (I:Tm×Int->OS S):OS S:=aa k (dG k c0) fun r1=>ab (!r1) (I ((Tm.mk 0 0 alH [] [] []),c0)) (aa k (axo k (ac line) phi (ac a)) fun r2=>aa k (asH k (ac r2.1) r2.2 c0) fun r3=>I ((ac r3.1),r3.2))
def aup (k:Nat) (line a:Tm) (alJ:Int) (c0_1:LC) (sx wl:Int) (aas:BA) (abq:LC) (abZ:LT) (c0_7:LB) (I:Int×Int×BA×LC×LT->OS S):OS S:=aa k (tO k 14 c0_1 [(ac line),(ac a)]) fun r1=>I (r1.1,r1.2.1,r1.2.2.1,r1.2.2.2.1,r1.2.2.2.2)
def ax2 (k:Nat) (l:Tm) (alJ:Int) (c0_1:LC) (sx wl:Int) (aas:BA) (abq:LC) (abZ:LT) (c0_7:LB) (I:Int×Int×BA×LT×Int->OS S):OS S:=sf (af l.kids 0) fun x1=>aa k (zb k (ac x1) 1 0 alJ) fun r2=>aa k (au5 k 0) fun r3=>aa k (axU k (ac r2.1) c0_1 (Tm.mk r3.1 r3.2.1 r3.2.2 [] [] []) r2.2) fun r4=>sf (af l.kids 1) fun x5=>aa k (y8 k (ac x5) 1 0 r4.2) fun r6=>aa k (za k (ac r6.1) (ac r4.1) r6.2) fun r7=>aa k (zb k (Tm.mk sx wl aas abq abZ c0_7) 1 0 r7.2) fun r8=>aa k (JL k (ac r4.1) ([]:LC) r8.2) fun r9=>aa k (zc k 6 [(ac r8.1),(ac r9.1)]) fun r10=>aa k (aup k (ac r7.1) (Tm.mk r10.1 r10.2.1 r10.2.2.1 [] r10.2.2.2 []) r9.2 c0_1 sx wl aas abq abZ c0_7) fun r11=>aa k (zc k 5 [(Tm.mk r11.1 r11.2.1 r11.2.2.1 r11.2.2.2.1 r11.2.2.2.2 [])]) fun r12=>I (r12.1,r12.2.1,r12.2.2.1,r12.2.2.2,r9.2)
def axs (k:Nat) (line:Tm) (phi:LC) (a:Tm) (I:Tm×Int->OS S):OS S:=aa k (awn k (ac line) phi (ac a) (Cl.mk 0 1) [(Cl.mk 3 0)]) fun r1=>I ((ac r1.1),r1.2)
def awu (k:Nat) (line:Tm) (phi:LC) (a:Tm) (c0:Int) (I:Tm×Int->OS S):OS S:=aa k (dG k c0) fun r1=>ab (!r1) (I ((Tm.mk 0 0 alH [] [] []),c0)) (aa k (axs k (ac line) phi (ac a)) fun r2=>aa k (asH k (ac r2.1) r2.2 c0) fun r3=>I ((ac r3.1),r3.2))
def ax3 (k:Nat) (l:Tm) (alJ:Int) (c0_1:LC) (sx wl:Int) (aas:BA) (abq:LC) (abZ:LT) (c0_7:LB) (I:Int×Int×BA×LT×Int->OS S):OS S:=aa k (zc k 9 [(Tm.mk sx wl aas abq abZ c0_7)]) fun r1=>sf (af l.kids 1) fun x2=>sf (af l.kids 0) fun x3=>aa k (awu k (ac x3) c0_1 (Tm.mk r1.1 r1.2.1 r1.2.2.1 [] r1.2.2.2 []) alJ) fun r4=>aa k (za k (ac x2) (ac r4.1) r4.2) fun r5=>sf (af l.kids 0) fun x6=>aa k (aup k (ac x6) (Tm.mk r1.1 r1.2.1 r1.2.2.1 [] r1.2.2.2 []) r5.2 c0_1 sx wl aas abq abZ c0_7) fun r7=>aa k (zc k 10 [(Tm.mk sx wl aas abq abZ c0_7)]) fun r8=>aa k (aup k (ac r5.1) (Tm.mk r8.1 r8.2.1 r8.2.2.1 [] r8.2.2.2 []) r5.2 c0_1 sx wl aas abq abZ c0_7) fun r9=>aa k (zc k 8 [(Tm.mk r7.1 r7.2.1 r7.2.2.1 r7.2.2.2.1 r7.2.2.2.2 []),(Tm.mk r9.1 r9.2.1 r9.2.2.1 r9.2.2.2.1 r9.2.2.2.2 [])]) fun r10=>I (r10.1,r10.2.1,r10.2.2.1,r10.2.2.2,r5.2)
def ax0 (k:Nat) (t:Tm) (I:Tm×Int->OS S):OS S:=aa k (lv k (ac t) 2 1) fun r1=>ab (!(r1.2==0)) (I ((Tm.mk 0 0 alH [] [] []),r1.2)) (aa k (m_ k (ac r1.1) 0 [(Cl.mk 2 0)]) fun r2=>I ((ac r2.1),r2.2))
def ax4 (k:Nat) (t:Tm) (alJ:Int) (c0_1:LC) (sx wl:Int) (aas:BA) (abq:LC) (abZ:LT) (c0_7:LB) (I:Tm×Int->OS S):OS S:=ab (!(alJ==0)) (I ((Tm.mk 0 0 alH [] [] []),alJ)) (aa k (ax0 k (ac t)) fun r1=>I ((ac r1.1),r1.2))
def aww (k:Nat) (a_by:Int) (a_r:Cl) (c1 c2:Tm) (arG:Int) (aqT:LC) (aqM aqN:Int) (aqO:BA) (aqP:LC) (aqQ:LT) (aqR:LB) (I:Int×Int×BA×LC×LT×Int->OS S):OS S:=aa k (zb k (Tm.mk aqM aqN aqO aqP aqQ aqR) 0 a_by arG) fun r1=>aa k (zb k (ac c1) 0 a_by r1.2) fun r2=>aa k (zb k (ac c2) 0 a_by r2.2) fun r3=>aa k (tO k 13 [a_r] [(ac r1.1),(ac r2.1),(ac r3.1)]) fun r4=>I (r4.1,r4.2.1,r4.2.2.1,r4.2.2.2.1,r4.2.2.2.2,r3.2)
def JK (k:Nat) (f:LC) (a_by c0:Int) (I:LC×Int->OS S):OS S:=aa k (dG k c0) fun r1=>ab (!r1) (I (([]:LC),c0)) (aa k (jV k f 0 a_by) fun r2=>aa k (asH k (Tm.mk 0 0 alH [] [] []) r2.2 c0) fun r3=>I (r2.1,r3.2))
def JJ (k:Nat) (t:Tm) (a_by c0:Int) (I:Tm×Int->OS S):OS S:=aa k (dG k c0) fun r1=>ab (!r1) (I ((Tm.mk 0 0 alH [] [] []),c0)) (aa k (lv k (ac t) 1 a_by) fun r2=>aa k (asH k (ac r2.1) r2.2 c0) fun r3=>I ((ac r3.1),r3.2))
def ax1 (k:Nat) (l:Tm) (alJ:Int) (c0_1:LC) (sx wl:Int) (aas:BA) (abq:LC) (abZ:LT) (c0_7:LB) (I:Int×Int×BA×LT×Int->OS S):OS S:=sf (af l.kids 1) fun x1=>aa k (JL k (ac x1) ([]:LC) alJ) fun r2=>sf (af l.kids 2) fun x3=>aa k (JL k (ac x3) ([]:LC) r2.2) fun r4=>sf (af l.kids 0) fun x5=>aa k (ax4 k (ac x5) r4.2 c0_1 sx wl aas abq abZ c0_7) fun r6=>aa k (aww k 1 (Cl.mk 1 0) (ac r2.1) (ac r4.1) r6.2 c0_1 sx wl aas abq abZ c0_7) fun r7=>ab (decide (((c0_1.length:Int):Int)>0)) (aa k (JK k c0_1 1 r7.2.2.2.2.2) fun r8=>aa k (aww k 2 (Cl.mk 2 0) (ac r2.1) (ac r4.1) r8.2 c0_1 sx wl aas abq abZ c0_7) fun r9=>aa k (nf k r8.1 [(Tm.mk r9.1 r9.2.1 r9.2.2.1 r9.2.2.2.1 r9.2.2.2.2.1 [])]) fun r10=>sf (aw 1099511627776 0 [r10].length) fun x11=>sf (af l.kids 1) fun x12=>aa k (JJ k (ac x12) 1 r9.2.2.2.2.2) fun r13=>aa k (nf k [(Cl.mk 0 1)] [(ac r13.1)]) fun r14=>sf (aw 1099511627776 [r10].length [r14].length) fun x15=>sf (af l.kids 2) fun x16=>aa k (JJ k (ac x16) 1 r13.2) fun r17=>aa k (nf k [(Cl.mk 1 0)] [(ac r17.1)]) fun r18=>sf (aw 1099511627776 ([r10]++[r14]).length [r18].length) fun x19=>aa k (y9 k (ac r6.1) (Tm.mk r7.1 r7.2.1 r7.2.2.1 r7.2.2.2.1 r7.2.2.2.2.1 []) (([r10]++[r14])++[r18]) r17.2) fun r20=>aa k (zc k 12 [(ac r20.1)]) fun r21=>I (r21.1,r21.2.1,r21.2.2.1,r21.2.2.2,r20.2)) (sf (af l.kids 1) fun x22=>aa k (JJ k (ac x22) 1 r7.2.2.2.2.2) fun r23=>aa k (nf k [(Cl.mk 0 1)] [(ac r23.1)]) fun r24=>sf (aw 1099511627776 0 [r24].length) fun x25=>sf (af l.kids 2) fun x26=>aa k (JJ k (ac x26) 1 r23.2) fun r27=>aa k (nf k [(Cl.mk 1 0)] [(ac r27.1)]) fun r28=>sf (aw 1099511627776 [r24].length [r28].length) fun x29=>aa k (y9 k (ac r6.1) (Tm.mk r7.1 r7.2.1 r7.2.2.1 r7.2.2.2.1 r7.2.2.2.2.1 []) ([r24]++[r28]) r27.2) fun r30=>aa k (zc k 12 [(ac r30.1)]) fun r31=>I (r31.1,r31.2.1,r31.2.2.1,r31.2.2.2,r30.2))
def JM (k:Nat) (kind:Int) (l:LB) (kids:LT) (I:Int×Int×BA×LT×LB->OS S):OS S:=I (kind,0,alH,kids,l)
def Jp (k:Nat) (I:Tm×Bool×Int->OS S) (r3:Tm) (r15:Int×Int×BA×LC×LT) (x4:Tm) (r13:Tm×Int) (x5:Tm) (rec0:Int->(LB)->Int->OS S) (atx:Int) (sys11:LB) (v96:Int):OS S:=ab (decide ((v96:Int)<(x5.sys.length:Int))) (sf (af x5.sys v96) fun x16=>aa k (JK k r3.r 1 atx) fun r17=>aa k (JJ k (ac x4) 1 r17.2) fun r18=>sf (af x16.kids 0) fun x19=>aa k (tO k 14 r17.1 [(ac r18.1),(ac x19)]) fun r20=>aa k (nf k x16.face [(Tm.mk r20.1 r20.2.1 r20.2.2.1 r20.2.2.2.1 r20.2.2.2.2 [])]) fun r21=>sf (aw 1099511627776 sys11.length [r21].length) fun x22=>rec0 r18.2 (sys11++[r21]) (su .i64 (v96+1))) (aa k (JM k 15 sys11 [(ac r13.1),(Tm.mk r15.1 r15.2.1 r15.2.2.1 r15.2.2.2.1 r15.2.2.2.2 [])]) fun r23=>aa k (ly k (Tm.mk r23.1 r23.2.1 r23.2.2.1 [] r23.2.2.2.1 r23.2.2.2.2) atx) fun r24=>I ((ac r24.1),r24.2.1,r24.2.2.1))
def E7 (k:Nat) (I:Tm×Bool×Int->OS S) (r3:Tm) (r15:Int×Int×BA×LC×LT) (x4:Tm) (r13:Tm×Int) (x5:Tm):Nat->Int->(LB)->Int->OS S
 |0=>fun _ _ _=> .none
 |m+1=>fun atx sys11 v96=>Jp k I r3 r15 x4 r13 x5 (E7 k I r3 r15 x4 r13 x5 m) atx sys11 v96
def SP (k:Nat) (I:Tm×Bool×Int->OS S) (J0:Tm->(Int×Int×BA×LC×LT)->Tm->(Tm×Int)->Tm->Int->(LB)->Int->OS S) (t:Tm):OS S:=aa k (asi k (ac t)) fun r1=>ab (!(r1==0)) (I ((Tm.mk 0 0 alH [] [] []),false,r1)) (ab (!(t.kind==14)) (I ((Tm.mk 0 0 alH [] [] []),false,0)) (sf (af t.kids 0) fun x2=>ab (!(x2.kind==23)) (I ((Tm.mk 0 0 alH [] [] []),false,0)) (dJ k (ac t) fun r3=>sf (af r3.kids 0) fun x4=>sf (af r3.kids 1) fun x5=>ab (x5.kind==24) (aa k (ly k (ac x5) 0) fun r6=>I ((ac r6.1),r6.2.1,r6.2.2.1)) (ab (x5.kind==25) (aa k (ly k (ac x5) 0) fun r7=>I ((ac r7.1),r7.2.1,r7.2.2.1)) (ab (x5.kind==26) (sf (af x4.kids 0) fun x8=>sf (af x5.kids 0) fun x9=>aa k (tO k 14 r3.r [(ac x8),(ac x9)]) fun r10=>aa k (tO k 26 x5.r [(Tm.mk r10.1 r10.2.1 r10.2.2.1 r10.2.2.2.1 r10.2.2.2.2 [])]) fun r11=>aa k (ly k (Tm.mk r11.1 r11.2.1 r11.2.2.1 r11.2.2.2.1 r11.2.2.2.2 []) 0) fun r12=>I ((ac r12.1),r12.2.1,r12.2.2.1)) (ab (x5.kind==15) (aa k (JI k (ac x4) 0) fun r13=>sf (af x5.kids 1) fun x14=>aa k (tO k 14 r3.r [(ac x4),(ac x14)]) fun r15=>J0 r3 r15 x4 r13 x5 r13.2 ([]:LB) 0) (I ((Tm.mk 0 0 alH [] [] []),false,0))))))))
def JG (k:Nat) (t:Tm) (I:Tm×Bool×Int->OS S):OS S:=SP k I (fun r3 r15 x4 r13 x5 atx sys11 v96=>E7 k I r3 r15 x4 r13 x5 k atx sys11 v96) t
def ay_ (k:Nat) (b:(Br Tm)) (I:(Br Tm)->OS S):OS S:=sf (af b.kids 1) fun x1=>aa k (nf k b.face [(ac x1)]) fun r2=>I r2
def aw_ (k:Nat) (I:LB->OS S) (l:LB) (rec0:Int->(LB)->OS S) (v10:Int) (out5:LB):OS S:=ab (decide ((v10:Int)<(l.length:Int))) (sf (af l v10) fun x1=>aa k (ay_ k x1) fun r2=>sf (aw 1099511627776 out5.length [r2].length) fun x3=>rec0 (su .i64 (v10+1)) (out5++[r2])) (I out5)
def avV (k:Nat) (I:LB->OS S) (l:LB):Nat->Int->(LB)->OS S
 |0=>fun _ _=> .none
 |m+1=>fun v10 out5=>aw_ k I l (avV k I l m) v10 out5
def ayK (k:Nat) (I:LB->OS S) (J0:Int->(LB)->OS S) (l:LB):OS S:=J0 0 ([]:LB)
def axE (k:Nat) (l:LB) (I:LB->OS S):OS S:=ayK k I (fun v10 out5=>avV k I l k v10 out5) l
def au4 (k:Nat) (g:Tm) (I:LB->OS S):OS S:=aa k (axE k g.sys) fun r1=>I r1
def aun (k:Nat) (a:Tm) (es:LB) (I:Int×Int×BA×LT×LB->OS S):OS S:=aa k (JM k 18 es [(ac a)]) fun r1=>I (r1.1,r1.2.1,r1.2.2.1,r1.2.2.2.1,r1.2.2.2.2)
def ay3 (k:Nat) (c:Cl) (c0:Int) (I:Cl×Bool->OS S):OS S:=aa k (amz k (bj .or .u32 c.pos c.neg) c0) fun r1=>I (c,!r1)
def aw1 (k:Nat) (I:LC->OS S) (c0:Int) (l:LC) (rec0:Int->(LC)->OS S) (v12:Int) (out5:LC):OS S:=ab (decide ((v12:Int)<(l.length:Int))) (sf (af l v12) fun x1=>aa k (ay3 k x1 c0) fun r2=>ab (r2.2) (sf (aw 1099511627776 out5.length [r2.1].length) fun x3=>rec0 (su .i64 (v12+1)) (out5++[r2.1])) (rec0 (su .i64 (v12+1)) out5)) (I out5)
def avN (k:Nat) (I:LC->OS S) (c0:Int) (l:LC):Nat->Int->(LC)->OS S
 |0=>fun _ _=> .none
 |m+1=>fun v12 out5=>aw1 k I c0 l (avN k I c0 l m) v12 out5
def az7 (k:Nat) (I:LC->OS S) (J0:Int->(LC)->OS S) (l:LC) (c0:Int):OS S:=J0 0 ([]:LC)
def ay4 (k:Nat) (l:LC) (c0:Int) (I:LC->OS S):OS S:=az7 k I (fun v12 out5=>avN k I c0 l k v12 out5) l c0
def axu (k:Nat) (f:LC) (i:Int) (I:LC×Int->OS S):OS S:=aa k (pd k f) fun r1=>ab (!r1) (I (([]:LC),2)) (aa k (yK k i) fun r2=>ab (!r2) (I (([]:LC),2)) (aa k (ay4 k f i) fun r3=>aa k (gy k r3) fun r4=>I (r4.1,r4.2)))
def axT (k:Nat) (f:LC) (c0:Int) (I:LC×Int->OS S):OS S:=aa k (dG k c0) fun r1=>ab (!r1) (I (([]:LC),c0)) (aa k (axu k f 0) fun r2=>aa k (asH k (Tm.mk 0 0 alH [] [] []) r2.2 c0) fun r3=>aa k (dG k r3.2) fun r4=>ab (!r4) (I (([]:LC),r3.2)) (aa k (zc k 3 ([]:LT)) fun r5=>aa k (zc k 3 ([]:LT)) fun r6=>aa k (tK k) fun r7=>aa k (m_ k (Tm.mk 14 0 alH r2.1 [(Tm.mk r5.1 r5.2.1 r5.2.2.1 [] r5.2.2.2 []),(Tm.mk r6.1 r6.2.1 r6.2.2.1 [] r6.2.2.2 [])] []) 0 r7) fun r8=>aa k (asH k (Tm.mk 0 0 alH [] [] []) r8.2 r3.2) fun r9=>I (r8.1.r,r9.2)))
def avw (k:Nat) (c1:Tm) (as4:Int) (asp:LC) (asv asx:Int) (asy:BA) (asz:LC) (asA:LT) (asD asE:LB) (ash asc:Int) (asd:BA) (ase:LC) (asf:LT) (asg:LB) (asq asr:Int) (ass:BA) (ast:LC) (asu:LT) (asw:LB) (I:Tm×Int->OS S):OS S:=aa k (zb k (ac c1) 0 1 as4) fun r1=>I ((ac r1.1),r1.2)
def awp (k:Nat) (alJ:Int) (c0_1:LC) (sx wl:Int) (aas:BA) (abq:LC) (abZ:LT) (c0_7 arw:LB) (aqZ aqU:Int) (aqV:BA) (aqW:LC) (aqX:LT) (aqY:LB) (aqG aqH:Int) (aqI:BA) (aqJ:LC) (aqK:LT) (aqL:LB) (c2:Tm) (I:LB×Int->OS S):OS S:=ab ((c0_1.length:Int)==0) (I (([]:LB),alJ)) (aa k (avw k (ac c2) alJ c0_1 sx wl aas abq abZ c0_7 arw aqZ aqU aqV aqW aqX aqY aqG aqH aqI aqJ aqK aqL) fun r1=>aa k (nf k c0_1 [(ac r1.1)]) fun r2=>I ([r2],r1.2))
def aum (k:Nat) (a_e:Tm) (I:Int×Int×BA×LT->OS S):OS S:=aa k (zc k 9 [(ac a_e)]) fun r1=>I (r1.1,r1.2.1,r1.2.2.1,r1.2.2.2)
def ay7 (k:Nat) (b:(Br Tm)) (aqS:Int) (aph:LC) (api apl:Int) (apm:BA) (apn:LC) (apr:LT) (aps aqC:LB) (aqi apG:Int) (apH:BA) (apI:LC) (apJ:LT) (ap3:LB) (aqr aqx:Int) (aqy:BA) (aqz:LC) (aqA:LT) (aqB:LB) (I:(Br Tm)×Int->OS S):OS S:=sf (af b.kids 1) fun x1=>aa k (aum k (ac x1)) fun r2=>sf (af b.kids 0) fun x3=>aa k (awu k (ac x3) aph (Tm.mk api apl apm apn apr aps) aqS) fun r4=>aa k (zc k 6 [(Tm.mk r2.1 r2.2.1 r2.2.2.1 [] r2.2.2.2 []),(ac r4.1)]) fun r5=>aa k (nf k b.face [(Tm.mk r5.1 r5.2.1 r5.2.2.1 [] r5.2.2.2 [])]) fun r6=>I (r6,r4.2)
def aw5 (k:Nat) (I:LB×Int->OS S) (aph:LC) (apG:Int) (apH:BA) (apI:LC) (apJ:LT) (ap3:LB) (aqr aqx:Int) (aqy:BA) (aqz:LC) (aqA:LT) (api:Int) (aqB:LB) (apl:Int) (apm:BA) (apn:LC) (apr:LT) (aps aqC:LB) (aqi:Int) (l:LB) (rec0:Int->Int->(LB)->OS S) (arm v10:Int) (out5:LB):OS S:=ab (decide ((v10:Int)<(l.length:Int))) (sf (af l v10) fun x1=>aa k (ay7 k x1 arm aph api apl apm apn apr aps aqC aqi apG apH apI apJ ap3 aqr aqx aqy aqz aqA aqB) fun r2=>sf (aw 1099511627776 out5.length [r2.1].length) fun x3=>rec0 r2.2 (su .i64 (v10+1)) (out5++[r2.1])) (I (out5,arm))
def avQ (k:Nat) (I:LB×Int->OS S) (aph:LC) (apG:Int) (apH:BA) (apI:LC) (apJ:LT) (ap3:LB) (aqr aqx:Int) (aqy:BA) (aqz:LC) (aqA:LT) (api:Int) (aqB:LB) (apl:Int) (apm:BA) (apn:LC) (apr:LT) (aps aqC:LB) (aqi:Int) (l:LB):Nat->Int->Int->(LB)->OS S
 |0=>fun _ _ _=> .none
 |m+1=>fun arm v10 out5=>aw5 k I aph apG apH apI apJ ap3 aqr aqx aqy aqz aqA api aqB apl apm apn apr aps aqC aqi l (avQ k I aph apG apH apI apJ ap3 aqr aqx aqy aqz aqA api aqB apl apm apn apr aps aqC aqi l m) arm v10 out5
def aAa (k:Nat) (I:LB×Int->OS S) (J0:Int->Int->(LB)->OS S) (l:LB) (aqS:Int) (aph:LC) (api apl:Int) (apm:BA) (apn:LC) (apr:LT) (aps aqC:LB) (aqi apG:Int) (apH:BA) (apI:LC) (apJ:LT) (ap3:LB) (aqr aqx:Int) (aqy:BA) (aqz:LC) (aqA:LT) (aqB:LB):OS S:=J0 aqS 0 ([]:LB)
def awq (k:Nat) (l:LB) (aqS:Int) (aph:LC) (api apl:Int) (apm:BA) (apn:LC) (apr:LT) (aps aqC:LB) (aqi apG:Int) (apH:BA) (apI:LC) (apJ:LT) (ap3:LB) (aqr aqx:Int) (aqy:BA) (aqz:LC) (aqA:LT) (aqB:LB) (I:LB×Int->OS S):OS S:=aAa k I (fun arm v10 out5=>avQ k I aph apG apH apI apJ ap3 aqr aqx aqy aqz aqA api aqB apl apm apn apr aps aqC aqi l k arm v10 out5) l aqS aph api apl apm apn apr aps aqC aqi apG apH apI apJ ap3 aqr aqx aqy aqz aqA aqB
def aw4 (k:Nat) (I:Int×LB×Int×Int×BA×LC×LT×LB->OS S) (c0_1:LC) (aqU:Int) (aqV:BA) (aqW:LC) (aqX:LT) (aqY:LB) (aqG aqH:Int) (aqI:BA) (aqJ:LC) (aqK:LT) (sx:Int) (aqL:LB) (wl:Int) (aas:BA) (abq:LC) (abZ:LT) (c0_7:LB) (aqZ:Int) (g:Tm) (r3:Int×Int×BA×LT×LB) (rec0:Int->(LB)->Int->OS S) (apx:Int) (e0_8:LB) (v23:Int):OS S:=ab (decide ((v23:Int)<(g.sys.length:Int))) (sf (af g.sys v23) fun x4=>aa k (axT k x4.face apx) fun r5=>ab (decide (((r5.1.length:Int):Int)>0)) (aa k (nf k r5.1 x4.kids) fun r6=>sf (aw 1099511627776 e0_8.length [r6].length) fun x7=>rec0 r5.2 (e0_8++[r6]) (su .i64 (v23+1))) (rec0 r5.2 e0_8 (su .i64 (v23+1)))) (aa k (awp k apx c0_1 sx wl aas abq abZ c0_7 e0_8 aqZ aqU aqV aqW aqX aqY aqG aqH aqI aqJ aqK aqL (Tm.mk r3.1 r3.2.1 r3.2.2.1 [] r3.2.2.2.1 r3.2.2.2.2)) fun r8=>aa k (awq k e0_8 r8.2 c0_1 sx wl aas abq abZ c0_7 e0_8 aqZ aqU aqV aqW aqX aqY aqG aqH aqI aqJ aqK aqL) fun r9=>sf (aw 1099511627776 r8.1.length r9.1.length) fun x10=>sf (af g.kids 0) fun x11=>aa k (y9 k (ac x11) (Tm.mk r3.1 r3.2.1 r3.2.2.1 [] r3.2.2.2.1 r3.2.2.2.2) (r8.1++r9.1) r9.2) fun r12=>I (r12.2,e0_8,r12.1.kind,r12.1.n,r12.1.name,r12.1.r,r12.1.kids,r12.1.sys))
def avP (k:Nat) (I:Int×LB×Int×Int×BA×LC×LT×LB->OS S) (c0_1:LC) (aqU:Int) (aqV:BA) (aqW:LC) (aqX:LT) (aqY:LB) (aqG aqH:Int) (aqI:BA) (aqJ:LC) (aqK:LT) (sx:Int) (aqL:LB) (wl:Int) (aas:BA) (abq:LC) (abZ:LT) (c0_7:LB) (aqZ:Int) (g:Tm) (r3:Int×Int×BA×LT×LB):Nat->Int->(LB)->Int->OS S
 |0=>fun _ _ _=> .none
 |m+1=>fun apx e0_8 v23=>aw4 k I c0_1 aqU aqV aqW aqX aqY aqG aqH aqI aqJ aqK sx aqL wl aas abq abZ c0_7 aqZ g r3 (avP k I c0_1 aqU aqV aqW aqX aqY aqG aqH aqI aqJ aqK sx aqL wl aas abq abZ c0_7 aqZ g r3 m) apx e0_8 v23
def az_ (k:Nat) (I:Int×LB×Int×Int×BA×LC×LT×LB->OS S) (J0:(Int×Int×BA×LT×LB)->Int->(LB)->Int->OS S) (g:Tm) (alJ:Int) (c0_1:LC) (sx wl:Int) (aas:BA) (abq:LC) (abZ:LT) (c0_7:LB) (aqZ aqU:Int) (aqV:BA) (aqW:LC) (aqX:LT) (aqY:LB) (aqG aqH:Int) (aqI:BA) (aqJ:LC) (aqK:LT) (aqL:LB):OS S:=aa k (JL k (ac g) ([]:LC) alJ) fun r1=>aa k (au4 k (ac r1.1)) fun r2=>aa k (aun k (Tm.mk sx wl aas abq abZ c0_7) r2) fun r3=>J0 r3 r1.2 ([]:LB) 0
def axB (k:Nat) (g:Tm) (alJ:Int) (c0_1:LC) (sx wl:Int) (aas:BA) (abq:LC) (abZ:LT) (c0_7:LB) (aqZ aqU:Int) (aqV:BA) (aqW:LC) (aqX:LT) (aqY:LB) (aqG aqH:Int) (aqI:BA) (aqJ:LC) (aqK:LT) (aqL:LB) (I:Int×LB×Int×Int×BA×LC×LT×LB->OS S):OS S:=az_ k I (fun r3 apx e0_8 v23=>avP k I c0_1 aqU aqV aqW aqX aqY aqG aqH aqI aqJ aqK sx aqL wl aas abq abZ c0_7 aqZ g r3 k apx e0_8 v23) g alJ c0_1 sx wl aas abq abZ c0_7 aqZ aqU aqV aqW aqX aqY aqG aqH aqI aqJ aqK aqL
def asX (k:Nat) (a_n:Int) (I:Int×Int×BA->OS S):OS S:=I (1,a_n,alH)
def au2 (k:Nat) (t a f y:Tm) (c0:Int) (I:Int×Int×BA×LT×Int->OS S):OS S:=aa k (arP k (ac a) 1 1 c0) fun r1=>aa k (arP k (ac y) 1 0 r1.2) fun r2=>aa k (arP k (ac f) 1 0 r2.2) fun r3=>aa k (asX k 0) fun r4=>aa k (arj k 6 [(ac r3.1),(Tm.mk r4.1 r4.2.1 r4.2.2 [] [] [])]) fun r5=>aa k (arj k 11 [(ac r1.1),(ac r2.1),(Tm.mk r5.1 r5.2.1 r5.2.2.1 [] r5.2.2.2 [])]) fun r6=>aa k (arj k 7 [(ac t),(Tm.mk r6.1 r6.2.1 r6.2.2.1 [] r6.2.2.2 [])]) fun r7=>I (r7.1,r7.2.1,r7.2.2.1,r7.2.2.2,r3.2)
def axq (k:Nat) (t a f y:Tm) (I:Tm×Int->OS S):OS S:=aa k (m9 k [(ac t),(ac a),(ac f),(ac y)]) fun r1=>dJ k (ac t) fun r2=>aa k (au2 k (ac r2) (ac a) (ac f) (ac y) r1) fun r3=>aa k (eQ k (Tm.mk r3.1 r3.2.1 r3.2.2.1 [] r3.2.2.2.1 []) r3.2.2.2.2) fun r4=>I ((ac r4.1),r4.2.1)
def axW (k:Nat) (t a f y:Tm) (c0:Int) (I:Tm×Int->OS S):OS S:=aa k (dG k c0) fun r1=>ab (!r1) (I ((Tm.mk 0 0 alH [] [] []),c0)) (aa k (axq k (ac t) (ac a) (ac f) (ac y)) fun r2=>aa k (asH k (ac r2.1) r2.2 c0) fun r3=>I ((ac r3.1),r3.2))
def awo (k:Nat) (a_x c1:Tm) (as4:Int) (asp:LC) (asv asx:Int) (asy:BA) (asz:LC) (asA:LT) (asD asE:LB) (ash asc:Int) (asd:BA) (ase:LC) (asf:LT) (asg:LB) (asq asr:Int) (ass:BA) (ast:LC) (asu:LT) (asw:LB) (I:Int×Int×BA×LC×LT×Int->OS S):OS S:=aa k (zb k (ac c1) 0 1 as4) fun r1=>aa k (zb k (ac a_x) 0 1 r1.2) fun r2=>aa k (zb k (Tm.mk ash asc asd ase asf asg) 0 2 r2.2) fun r3=>aa k (zc k 12 [(ac r3.1)]) fun r4=>aa k (zc k 8 [(ac r2.1),(Tm.mk r4.1 r4.2.1 r4.2.2.1 [] r4.2.2.2 [])]) fun r5=>aa k (zc k 10 [(ac r1.1)]) fun r6=>aa k (zc k 6 [(Tm.mk r6.1 r6.2.1 r6.2.2.1 [] r6.2.2.2 []),(Tm.mk r5.1 r5.2.1 r5.2.2.1 [] r5.2.2.2 [])]) fun r7=>aa k (zc k 9 [(ac r1.1)]) fun r8=>aa k (tO k 13 [(Cl.mk 1 0)] [(Tm.mk r7.1 r7.2.1 r7.2.2.1 [] r7.2.2.2 []),(Tm.mk r8.1 r8.2.1 r8.2.2.1 [] r8.2.2.2 []),(Tm.mk r5.1 r5.2.1 r5.2.2.1 [] r5.2.2.2 [])]) fun r9=>I (r9.1,r9.2.1,r9.2.2.1,r9.2.2.2.1,r9.2.2.2.2,r3.2)
def avx (k:Nat) (c2:Tm) (arG:Int) (aqT:LC) (aqM aqN:Int) (aqO:BA) (aqP:LC) (aqQ:LT) (aqR arh:LB) (ari aq7:Int) (aq8:BA) (aq9:LC) (aq_:LT) (ara:LB) (arb arc:Int) (ard:BA) (are:LC) (arf:LT) (arg:LB) (I:Int×Int×BA×LC×LT×Int->OS S):OS S:=aa k (awo k (Tm.mk aqM aqN aqO aqP aqQ aqR) (ac c2) arG aqT aqM aqN aqO aqP aqQ aqR arh ari aq7 aq8 aq9 aq_ ara arb arc ard are arf arg) fun r1=>I (r1.1,r1.2.1,r1.2.2.1,r1.2.2.2.1,r1.2.2.2.2.1,r1.2.2.2.2.2)
def axD (k:Nat) (alJ:Int) (c0_1:LC) (sx wl:Int) (aas:BA) (abq:LC) (abZ:LT) (c0_7 arw:LB) (aqZ aqU:Int) (aqV:BA) (aqW:LC) (aqX:LT) (aqY:LB) (aqG aqH:Int) (aqI:BA) (aqJ:LC) (aqK:LT) (aqL:LB) (c3:Tm) (I:LB×Int->OS S):OS S:=ab ((c0_1.length:Int)==0) (I (([]:LB),alJ)) (aa k (avx k (ac c3) alJ c0_1 sx wl aas abq abZ c0_7 arw aqZ aqU aqV aqW aqX aqY aqG aqH aqI aqJ aqK aqL) fun r1=>aa k (nf k c0_1 [(Tm.mk r1.1 r1.2.1 r1.2.2.1 r1.2.2.2.1 r1.2.2.2.2.1 [])]) fun r2=>I ([r2],r1.2.2.2.2.2))
def ay8 (k:Nat) (b:(Br Tm)) (c2:Tm) (arG:Int) (aqT:LC) (aqM aqN:Int) (aqO:BA) (aqP:LC) (aqQ:LT) (aqR arh:LB) (ari aq7:Int) (aq8:BA) (aq9:LC) (aq_:LT) (ara:LB) (arb arc:Int) (ard:BA) (are:LC) (arf:LT) (arg:LB) (I:(Br Tm)×Int->OS S):OS S:=sf (af b.kids 0) fun x1=>aa k (tO k 14 aqT [(ac x1),(Tm.mk aqM aqN aqO aqP aqQ aqR)]) fun r2=>aa k (awo k (Tm.mk r2.1 r2.2.1 r2.2.2.1 r2.2.2.2.1 r2.2.2.2.2 []) (ac c2) arG aqT aqM aqN aqO aqP aqQ aqR arh ari aq7 aq8 aq9 aq_ ara arb arc ard are arf arg) fun r3=>aa k (nf k b.face [(Tm.mk r3.1 r3.2.1 r3.2.2.1 r3.2.2.2.1 r3.2.2.2.2.1 [])]) fun r4=>I (r4,r3.2.2.2.2.2)
def axa (k:Nat) (I:LB×Int->OS S) (c2:Tm) (aqT:LC) (aq7:Int) (aq8:BA) (aq9:LC) (aq_:LT) (ara:LB) (arb arc:Int) (ard:BA) (are:LC) (arf:LT) (aqM:Int) (arg:LB) (aqN:Int) (aqO:BA) (aqP:LC) (aqQ:LT) (aqR arh:LB) (ari:Int) (l:LB) (rec0:Int->Int->(LB)->OS S) (aro v10:Int) (out5:LB):OS S:=ab (decide ((v10:Int)<(l.length:Int))) (sf (af l v10) fun x1=>aa k (ay8 k x1 (ac c2) aro aqT aqM aqN aqO aqP aqQ aqR arh ari aq7 aq8 aq9 aq_ ara arb arc ard are arf arg) fun r2=>sf (aw 1099511627776 out5.length [r2.1].length) fun x3=>rec0 r2.2 (su .i64 (v10+1)) (out5++[r2.1])) (I (out5,aro))
def avd (k:Nat) (I:LB×Int->OS S) (c2:Tm) (aqT:LC) (aq7:Int) (aq8:BA) (aq9:LC) (aq_:LT) (ara:LB) (arb arc:Int) (ard:BA) (are:LC) (arf:LT) (aqM:Int) (arg:LB) (aqN:Int) (aqO:BA) (aqP:LC) (aqQ:LT) (aqR arh:LB) (ari:Int) (l:LB):Nat->Int->Int->(LB)->OS S
 |0=>fun _ _ _=> .none
 |m+1=>fun aro v10 out5=>axa k I c2 aqT aq7 aq8 aq9 aq_ ara arb arc ard are arf aqM arg aqN aqO aqP aqQ aqR arh ari l (avd k I c2 aqT aq7 aq8 aq9 aq_ ara arb arc ard are arf aqM arg aqN aqO aqP aqQ aqR arh ari l m) aro v10 out5
def aAd (k:Nat) (I:LB×Int->OS S) (J0:Int->Int->(LB)->OS S) (l:LB) (c2:Tm) (arG:Int) (aqT:LC) (aqM aqN:Int) (aqO:BA) (aqP:LC) (aqQ:LT) (aqR arh:LB) (ari aq7:Int) (aq8:BA) (aq9:LC) (aq_:LT) (ara:LB) (arb arc:Int) (ard:BA) (are:LC) (arf:LT) (arg:LB):OS S:=J0 arG 0 ([]:LB)
def axF (k:Nat) (l:LB) (c2:Tm) (arG:Int) (aqT:LC) (aqM aqN:Int) (aqO:BA) (aqP:LC) (aqQ:LT) (aqR arh:LB) (ari aq7:Int) (aq8:BA) (aq9:LC) (aq_:LT) (ara:LB) (arb arc:Int) (ard:BA) (are:LC) (arf:LT) (arg:LB) (I:LB×Int->OS S):OS S:=aAd k I (fun aro v10 out5=>avd k I c2 aqT aq7 aq8 aq9 aq_ ara arb arc ard are arf aqM arg aqN aqO aqP aqQ aqR arh ari l k aro v10 out5) l c2 arG aqT aqM aqN aqO aqP aqQ aqR arh ari aq7 aq8 aq9 aq_ ara arb arc ard are arf arg
def axC (k:Nat) (t a_e:Tm) (alJ:Int) (c0_1:LC) (sx wl:Int) (aas:BA) (abq:LC) (abZ:LT) (c0_7 arw:LB) (aqZ aqU:Int) (aqV:BA) (aqW:LC) (aqX:LT) (aqY:LB) (aqG aqH:Int) (aqI:BA) (aqJ:LC) (aqK:LT) (aqL:LB) (I:Int×Int×BA×LT×LB×Int->OS S):OS S:=aa k (zc k 10 [(ac a_e)]) fun r1=>aa k (zc k 6 [(Tm.mk r1.1 r1.2.1 r1.2.2.1 [] r1.2.2.2 []),(Tm.mk aqZ aqU aqV aqW aqX aqY)]) fun r2=>aa k (aum k (ac a_e)) fun r3=>aa k (axW k (ac t) (Tm.mk aqG aqH aqI aqJ aqK aqL) (Tm.mk r3.1 r3.2.1 r3.2.2.1 [] r3.2.2.2 []) (Tm.mk aqZ aqU aqV aqW aqX aqY) alJ) fun r4=>aa k (axD k r4.2 c0_1 sx wl aas abq abZ c0_7 arw aqZ aqU aqV aqW aqX aqY aqG aqH aqI aqJ aqK aqL (Tm.mk r2.1 r2.2.1 r2.2.2.1 [] r2.2.2.2 [])) fun r5=>aa k (axF k arw (Tm.mk r2.1 r2.2.1 r2.2.2.1 [] r2.2.2.2 []) r5.2 c0_1 sx wl aas abq abZ c0_7 arw aqZ aqU aqV aqW aqX aqY aqG aqH aqI aqJ aqK aqL) fun r6=>sf (aw 1099511627776 r5.1.length r6.1.length) fun x7=>aa k (zc k 9 [(Tm.mk r2.1 r2.2.1 r2.2.2.1 [] r2.2.2.2 [])]) fun r8=>aa k (JM k 15 (r5.1++r6.1) [(ac r4.1),(Tm.mk r8.1 r8.2.1 r8.2.2.1 [] r8.2.2.2 [])]) fun r9=>I (r9.1,r9.2.1,r9.2.2.1,r9.2.2.2.1,r9.2.2.2.2,r6.2)
def ay5 (k:Nat) (b:(Br Tm)) (aqS:Int) (aph:LC) (api apl:Int) (apm:BA) (apn:LC) (apr:LT) (aps aqC:LB) (aqi apG:Int) (apH:BA) (apI:LC) (apJ:LT) (ap3:LB) (aqr aqx:Int) (aqy:BA) (aqz:LC) (aqA:LT) (aqB:LB) (I:Int×Int×BA×LT×LB×Int->OS S):OS S:=sf (af b.kids 0) fun x1=>sf (af b.kids 1) fun x2=>aa k (axC k (ac x1) (ac x2) aqS aph api apl apm apn apr aps aqC aqi apG apH apI apJ ap3 aqr aqx aqy aqz aqA aqB) fun r3=>I (r3.1,r3.2.1,r3.2.2.1,r3.2.2.2.1,r3.2.2.2.2.1,r3.2.2.2.2.2)
def aw9 (k:Nat) (I:LT×Int->OS S) (aph:LC) (apG:Int) (apH:BA) (apI:LC) (apJ:LT) (ap3:LB) (aqr aqx:Int) (aqy:BA) (aqz:LC) (aqA:LT) (api:Int) (aqB:LB) (apl:Int) (apm:BA) (apn:LC) (apr:LT) (aps aqC:LB) (aqi:Int) (l:LB) (rec0:Int->Int->(LT)->OS S) (arm v10:Int) (out5:LT):OS S:=ab (decide ((v10:Int)<(l.length:Int))) (sf (af l v10) fun x1=>aa k (ay5 k x1 arm aph api apl apm apn apr aps aqC aqi apG apH apI apJ ap3 aqr aqx aqy aqz aqA aqB) fun r2=>sf (aw 1099511627776 out5.length [(Tm.mk r2.1 r2.2.1 r2.2.2.1 [] r2.2.2.2.1 r2.2.2.2.2.1)].length) fun x3=>rec0 r2.2.2.2.2.2 (su .i64 (v10+1)) (out5++[(Tm.mk r2.1 r2.2.1 r2.2.2.1 [] r2.2.2.2.1 r2.2.2.2.2.1)])) (I (out5,arm))
def avU (k:Nat) (I:LT×Int->OS S) (aph:LC) (apG:Int) (apH:BA) (apI:LC) (apJ:LT) (ap3:LB) (aqr aqx:Int) (aqy:BA) (aqz:LC) (aqA:LT) (api:Int) (aqB:LB) (apl:Int) (apm:BA) (apn:LC) (apr:LT) (aps aqC:LB) (aqi:Int) (l:LB):Nat->Int->Int->(LT)->OS S
 |0=>fun _ _ _=> .none
 |m+1=>fun arm v10 out5=>aw9 k I aph apG apH apI apJ ap3 aqr aqx aqy aqz aqA api aqB apl apm apn apr aps aqC aqi l (avU k I aph apG apH apI apJ ap3 aqr aqx aqy aqz aqA api aqB apl apm apn apr aps aqC aqi l m) arm v10 out5
def aAc (k:Nat) (I:LT×Int->OS S) (J0:Int->Int->(LT)->OS S) (l:LB) (aqS:Int) (aph:LC) (api apl:Int) (apm:BA) (apn:LC) (apr:LT) (aps aqC:LB) (aqi apG:Int) (apH:BA) (apI:LC) (apJ:LT) (ap3:LB) (aqr aqx:Int) (aqy:BA) (aqz:LC) (aqA:LT) (aqB:LB):OS S:=J0 aqS 0 ([]:LT)
def avz (k:Nat) (l:LB) (aqS:Int) (aph:LC) (api apl:Int) (apm:BA) (apn:LC) (apr:LT) (aps aqC:LB) (aqi apG:Int) (apH:BA) (apI:LC) (apJ:LT) (ap3:LB) (aqr aqx:Int) (aqy:BA) (aqz:LC) (aqA:LT) (aqB:LB) (I:LT×Int->OS S):OS S:=aAc k I (fun arm v10 out5=>avU k I aph apG apH apI apJ ap3 aqr aqx aqy aqz aqA api aqB apl apm apn apr aps aqC aqi l k arm v10 out5) l aqS aph api apl apm apn apr aps aqC aqi apG apH apI apJ ap3 aqr aqx aqy aqz aqA aqB
def avv (k:Nat) (aqS:Int) (aph:LC) (api apl:Int) (apm:BA) (apn:LC) (apr:LT) (aps aqC:LB) (aqi apG:Int) (apH:BA) (apI:LC) (apJ:LT) (ap3:LB) (aqr aqx:Int) (aqy:BA) (aqz:LC) (aqA:LT) (aqB:LB) (I:Tm×Int->OS S):OS S:=aa k (zb k (Tm.mk aqi apG apH apI apJ ap3) 0 1 aqS) fun r1=>I ((ac r1.1),r1.2)
def avy (k:Nat) (alJ:Int) (c0_1:LC) (sx wl:Int) (aas:BA) (abq:LC) (abZ:LT) (c0_7 arw:LB) (aqZ aqU:Int) (aqV:BA) (aqW:LC) (aqX:LT) (aqY:LB) (aqG aqH:Int) (aqI:BA) (aqJ:LC) (aqK:LT) (aqL:LB) (I:LB×Int->OS S):OS S:=ab ((c0_1.length:Int)==0) (I (([]:LB),alJ)) (aa k (avv k alJ c0_1 sx wl aas abq abZ c0_7 arw aqZ aqU aqV aqW aqX aqY aqG aqH aqI aqJ aqK aqL) fun r1=>aa k (nf k c0_1 [(ac r1.1)]) fun r2=>I ([r2],r1.2))
def aw3 (k:Nat) (I:Tm×Bool×Int->OS S) (r3:Tm) (r6:Int×LB×Int×Int×BA×LC×LT×LB) (x4:Tm) (r8:Tm×Int) (rec0:Int->Int->Int->BA->(LC)->(LT)->(LB)->(LB)->Int->(LT)->(LB)->OS S) (atp atq atr:Int) (att:BA) (atu:LC) (atv:LT) (atw parts10:LB) (v79:Int) (ws8:LT) (sys9:LB):OS S:=ab (decide ((v79:Int)<(r8.1.sys.length:Int))) (sf (af r8.1.sys v79) fun x12=>sf (af ws8 v79) fun x13=>sf (af ws8 v79) fun x14=>aa k (zb k (ac x14) 0 1 atp) fun r15=>aa k (zb k (Tm.mk r6.2.2.1 r6.2.2.2.1 r6.2.2.2.2.1 r6.2.2.2.2.2.1 r6.2.2.2.2.2.2.1 r6.2.2.2.2.2.2.2) 0 1 r15.2) fun r16=>sf (af x12.kids 1) fun x17=>aa k (zb k (ac x17) 0 1 r16.2) fun r18=>aa k (aum k (ac r18.1)) fun r19=>aa k (zc k 9 [(ac r15.1)]) fun r20=>aa k (zc k 6 [(Tm.mk r19.1 r19.2.1 r19.2.2.1 [] r19.2.2.2 []),(Tm.mk r20.1 r20.2.1 r20.2.2.1 [] r20.2.2.2 [])]) fun r21=>aa k (zc k 10 [(ac r15.1)]) fun r22=>aa k (tO k 13 [(Cl.mk 1 0)] [(Tm.mk r22.1 r22.2.1 r22.2.2.1 [] r22.2.2.2 []),(ac r16.1),(Tm.mk r21.1 r21.2.1 r21.2.2.1 [] r21.2.2.2 [])]) fun r23=>aa k (nf k x12.face [(Tm.mk r23.1 r23.2.1 r23.2.2.1 r23.2.2.2.1 r23.2.2.2.2 [])]) fun r24=>sf (aw 1099511627776 sys9.length [r24].length) fun x25=>sf (af ws8 v79) fun x26=>sf (af ws8 v79) fun x27=>aa k (zc k 9 [(ac x27)]) fun r28=>aa k (nf k x12.face [(Tm.mk r28.1 r28.2.1 r28.2.2.1 [] r28.2.2.2 [])]) fun r29=>sf (aw 1099511627776 parts10.length [r29].length) fun x30=>rec0 r18.2 atq atr att atu atv atw (parts10++[r29]) (su .i64 (v79+1)) ws8 (sys9++[r24])) (aa k (JM k 15 sys9 [(Tm.mk atq atr att atu atv atw),(Tm.mk r6.2.2.1 r6.2.2.2.1 r6.2.2.2.2.1 r6.2.2.2.2.2.1 r6.2.2.2.2.2.2.1 r6.2.2.2.2.2.2.2)]) fun r31=>aa k (JM k 17 parts10 [(Tm.mk r31.1 r31.2.1 r31.2.2.1 [] r31.2.2.2.1 r31.2.2.2.2)]) fun r32=>aa k (ly k (Tm.mk r32.1 r32.2.1 r32.2.2.1 [] r32.2.2.2.1 r32.2.2.2.2) atp) fun r33=>I ((ac r33.1),r33.2.1,r33.2.2.1))
def auQ (k:Nat) (I:Tm×Bool×Int->OS S) (r3:Tm) (r6:Int×LB×Int×Int×BA×LC×LT×LB) (x4:Tm) (r8:Tm×Int):Nat->Int->Int->Int->BA->(LC)->(LT)->(LB)->(LB)->Int->(LT)->(LB)->OS S
 |0=>fun _ _ _ _ _ _ _ _ _ _ _=> .none
 |m+1=>fun atp atq atr att atu atv atw parts10 v79 ws8 sys9=>aw3 k I r3 r6 x4 r8 (auQ k I r3 r6 x4 r8 m) atp atq atr att atu atv atw parts10 v79 ws8 sys9
def az9 (k:Nat) (I:Tm×Bool×Int->OS S) (J0:Tm->(Int×LB×Int×Int×BA×LC×LT×LB)->Tm->(Tm×Int)->Int->Int->Int->BA->(LC)->(LT)->(LB)->(LB)->Int->(LT)->(LB)->OS S) (t:Tm):OS S:=aa k (asi k (ac t)) fun r1=>ab (!(r1==0)) (I ((Tm.mk 0 0 alH [] [] []),false,r1)) (ab (!(t.kind==14)) (I ((Tm.mk 0 0 alH [] [] []),false,0)) (sf (af t.kids 0) fun x2=>ab (!(x2.kind==16)) (I ((Tm.mk 0 0 alH [] [] []),false,0)) (dJ k (ac t) fun r3=>sf (af r3.kids 1) fun x4=>sf (af r3.kids 0) fun x5=>aa k (axB k (ac x5) 0 r3.r x4.kind x4.n x4.name x4.r x4.kids x4.sys 0 0 alH [] [] [] 0 0 alH [] [] []) fun r6=>sf (af r3.kids 0) fun x7=>aa k (JI k (ac x7) r6.1) fun r8=>ab ((r8.1.kids.length:Int)==1) (sf (af r8.1.kids 0) fun x9=>aa k (avz k r8.1.sys r8.2 r3.r x4.kind x4.n x4.name x4.r x4.kids x4.sys r6.2.1 r6.2.2.1 r6.2.2.2.1 r6.2.2.2.2.1 r6.2.2.2.2.2.1 r6.2.2.2.2.2.2.1 r6.2.2.2.2.2.2.2 x9.kind x9.n x9.name x9.r x9.kids x9.sys) fun r10=>aa k (avy k r10.2 r3.r x4.kind x4.n x4.name x4.r x4.kids x4.sys r6.2.1 r6.2.2.1 r6.2.2.2.1 r6.2.2.2.2.1 r6.2.2.2.2.2.1 r6.2.2.2.2.2.2.1 r6.2.2.2.2.2.2.2 x9.kind x9.n x9.name x9.r x9.kids x9.sys) fun r11=>J0 r3 r6 x4 r8 r11.2 x9.kind x9.n x9.name x9.r x9.kids x9.sys ([]:LB) 0 r10.1 r11.1) (aa k (avz k r8.1.sys r8.2 r3.r x4.kind x4.n x4.name x4.r x4.kids x4.sys r6.2.1 r6.2.2.1 r6.2.2.2.1 r6.2.2.2.2.1 r6.2.2.2.2.2.1 r6.2.2.2.2.2.2.1 r6.2.2.2.2.2.2.2 0 0 alH [] [] []) fun r34=>aa k (avy k r34.2 r3.r x4.kind x4.n x4.name x4.r x4.kids x4.sys r6.2.1 r6.2.2.1 r6.2.2.2.1 r6.2.2.2.2.1 r6.2.2.2.2.2.1 r6.2.2.2.2.2.2.1 r6.2.2.2.2.2.2.2 0 0 alH [] [] []) fun r35=>J0 r3 r6 x4 r8 r35.2 0 0 alH [] [] [] ([]:LB) 0 r34.1 r35.1))))
def axx (k:Nat) (t:Tm) (I:Tm×Bool×Int->OS S):OS S:=az9 k I (fun r3 r6 x4 r8 atp atq atr att atu atv atw parts10 v79 ws8 sys9=>auQ k I r3 r6 x4 r8 k atp atq atr att atu atv atw parts10 v79 ws8 sys9) t
def axZ (k:Nat) (t:Tm) (I:Tm×Bool×Int->OS S):OS S:=aa k (asi k (ac t)) fun r1=>ab (!(r1==0)) (I ((Tm.mk 0 0 alH [] [] []),false,r1)) (ab (!(t.kind==14)) (I ((Tm.mk 0 0 alH [] [] []),false,0)) (dJ k (ac t) fun r2=>sf (af r2.kids 1) fun x3=>sf (af r2.kids 0) fun x4=>ab (x4.kind==3) (aa k (ly k (ac x3) 0) fun r5=>I ((ac r5.1),r5.2.1,r5.2.2.1)) (ab (x4.kind==19) (aa k (ly k (ac x3) 0) fun r6=>I ((ac r6.1),r6.2.1,r6.2.2.1)) (ab (x4.kind==4) (aa k (ax2 k (ac x4) 0 r2.r x3.kind x3.n x3.name x3.r x3.kids x3.sys) fun r7=>aa k (ly k (Tm.mk r7.1 r7.2.1 r7.2.2.1 [] r7.2.2.2.1 []) r7.2.2.2.2) fun r8=>I ((ac r8.1),r8.2.1,r8.2.2.1)) (ab (x4.kind==7) (aa k (ax3 k (ac x4) 0 r2.r x3.kind x3.n x3.name x3.r x3.kids x3.sys) fun r9=>aa k (ly k (Tm.mk r9.1 r9.2.1 r9.2.2.1 [] r9.2.2.2.1 []) r9.2.2.2.2) fun r10=>I ((ac r10.1),r10.2.1,r10.2.2.1)) (ab (x4.kind==11) (aa k (ax1 k (ac x4) 0 r2.r x3.kind x3.n x3.name x3.r x3.kids x3.sys) fun r11=>aa k (ly k (Tm.mk r11.1 r11.2.1 r11.2.2.1 [] r11.2.2.2.1 []) r11.2.2.2.2) fun r12=>I ((ac r12.1),r12.2.1,r12.2.2.1)) (ab (x4.kind==23) (aa k (JG k (ac r2)) fun r13=>I ((ac r13.1),r13.2.1,r13.2.2)) (ab (x4.kind==16) (aa k (axx k (ac r2)) fun r14=>I ((ac r14.1),r14.2.1,r14.2.2)) (I ((Tm.mk 0 0 alH [] [] []),false,0))))))))))
def axH (k:Nat) (u:Tm) (aqS aph api:Int) (apl:BA) (apm:LC) (apn:LT) (apr aps:LB) (I:LT×Int->OS S):OS S:=aa k (zb k (ac u) 1 0 aqS) fun r1=>aa k (au5 k 0) fun r2=>aa k (zc k 6 [(ac r1.1),(Tm.mk r2.1 r2.2.1 r2.2.2 [] [] [])]) fun r3=>I ([(Tm.mk r3.1 r3.2.1 r3.2.2.1 [] r3.2.2.2 [])],r1.2)
def axc (k:Nat) (I:LB×Int->OS S) (c0_1 sx:Int) (wl:BA) (aas:LC) (abq:LT) (abZ c0_7:LB) (rec0:Int->Int->(LB)->OS S) (apx v13:Int) (out5:LB):OS S:=ab (decide ((v13:Int)<(c0_7.length:Int))) (sf (af c0_7 v13) fun x1=>sf (af x1.kids 0) fun x2=>aa k (axH k (ac x2) apx c0_1 sx wl aas abq abZ c0_7) fun r3=>aa k (nf k x1.face r3.1) fun r4=>sf (aw 1099511627776 out5.length [r4].length) fun x5=>rec0 r3.2 (su .i64 (v13+1)) (out5++[r4])) (I (out5,apx))
def avX (k:Nat) (I:LB×Int->OS S) (c0_1 sx:Int) (wl:BA) (aas:LC) (abq:LT) (abZ c0_7:LB):Nat->Int->Int->(LB)->OS S
 |0=>fun _ _ _=> .none
 |m+1=>fun apx v13 out5=>axc k I c0_1 sx wl aas abq abZ c0_7 (avX k I c0_1 sx wl aas abq abZ c0_7 m) apx v13 out5
def aAf (k:Nat) (I:LB×Int->OS S) (J0:Int->Int->(LB)->OS S) (alJ c0_1 sx:Int) (wl:BA) (aas:LC) (abq:LT) (abZ c0_7:LB):OS S:=J0 alJ 0 ([]:LB)
def avA (k:Nat) (alJ c0_1 sx:Int) (wl:BA) (aas:LC) (abq:LT) (abZ c0_7:LB) (I:LB×Int->OS S):OS S:=aAf k I (fun apx v13 out5=>avX k I c0_1 sx wl aas abq abZ c0_7 k apx v13 out5) alJ c0_1 sx wl aas abq abZ c0_7
def axI (k:Nat) (t:Tm) (alJ c0_1 sx:Int) (wl:BA) (aas:LC) (abq:LT) (abZ c0_7:LB) (I:Int×Int×BA×LT×Int->OS S):OS S:=aa k (zb k (Tm.mk c0_1 sx wl aas abq abZ) 1 0 alJ) fun r1=>aa k (au5 k 0) fun r2=>aa k (zc k 6 [(ac r1.1),(Tm.mk r2.1 r2.2.1 r2.2.2 [] [] [])]) fun r3=>aa k (avA k r1.2 c0_1 sx wl aas abq abZ c0_7) fun r4=>sf (af t.kids 1) fun x5=>aa k (JM k 15 r4.1 [(ac x5),(Tm.mk r3.1 r3.2.1 r3.2.2.1 [] r3.2.2.2 [])]) fun r6=>aa k (zc k 5 [(Tm.mk r6.1 r6.2.1 r6.2.2.1 [] r6.2.2.2.1 r6.2.2.2.2)]) fun r7=>I (r7.1,r7.2.1,r7.2.2.1,r7.2.2.2,r4.2)
def aza (k:Nat) (u:Tm) (c0:Int) (I:LT->OS S):OS S:=aa k (zc k c0 [(ac u)]) fun r1=>I [(Tm.mk r1.1 r1.2.1 r1.2.2.1 [] r1.2.2.2 [])]
def axe (k:Nat) (I:LB->OS S) (alJ c0_1 sx:Int) (wl:BA) (aas:LC) (abq:LT) (abZ c0_7:LB) (c1:Int) (rec0:Int->(LB)->OS S) (v13:Int) (out5:LB):OS S:=ab (decide ((v13:Int)<(c0_7.length:Int))) (sf (af c0_7 v13) fun x1=>sf (af x1.kids 0) fun x2=>aa k (aza k (ac x2) c1) fun r3=>aa k (nf k x1.face r3) fun r4=>sf (aw 1099511627776 out5.length [r4].length) fun x5=>rec0 (su .i64 (v13+1)) (out5++[r4])) (I out5)
def avZ (k:Nat) (I:LB->OS S) (alJ c0_1 sx:Int) (wl:BA) (aas:LC) (abq:LT) (abZ c0_7:LB) (c1:Int):Nat->Int->(LB)->OS S
 |0=>fun _ _=> .none
 |m+1=>fun v13 out5=>axe k I alJ c0_1 sx wl aas abq abZ c0_7 c1 (avZ k I alJ c0_1 sx wl aas abq abZ c0_7 c1 m) v13 out5
def aAh (k:Nat) (I:LB->OS S) (J0:Int->(LB)->OS S) (alJ c0_1 sx:Int) (wl:BA) (aas:LC) (abq:LT) (abZ c0_7:LB) (c1:Int):OS S:=J0 0 ([]:LB)
def avC (k:Nat) (alJ c0_1 sx:Int) (wl:BA) (aas:LC) (abq:LT) (abZ c0_7:LB) (c1:Int) (I:LB->OS S):OS S:=aAh k I (fun v13 out5=>avZ k I alJ c0_1 sx wl aas abq abZ c0_7 c1 k v13 out5) alJ c0_1 sx wl aas abq abZ c0_7 c1
def aws (k:Nat) (kind aqS aph api:Int) (apl:BA) (apm:LC) (apn:LT) (apr aps:LB) (I:Int×Int×BA×LT×LB->OS S):OS S:=aa k (zc k kind [(Tm.mk aph api apl apm apn apr)]) fun r1=>aa k (avC k aqS aph api apl apm apn apr aps kind) fun r2=>I (r1.1,r1.2.1,r1.2.2.1,r1.2.2.2,r2)
def axJ (k:Nat) (t:Tm) (alJ c0_1 sx:Int) (wl:BA) (aas:LC) (abq:LT) (abZ c0_7:LB) (I:Int×Int×BA×LT×Int->OS S):OS S:=aa k (aws k 9 alJ c0_1 sx wl aas abq abZ c0_7) fun r1=>aa k (aws k 10 alJ c0_1 sx wl aas abq abZ c0_7) fun r2=>sf (af t.kids 0) fun x3=>aa k (y_ k (ac x3) (Tm.mk r1.1 r1.2.1 r1.2.2.1 [] r1.2.2.2.1 []) r1.2.2.2.2 alJ) fun r4=>sf (af t.kids 1) fun x5=>aa k (y8 k (ac x5) 0 1 r4.2) fun r6=>aa k (za k (ac r6.1) (ac r4.1) r6.2) fun r7=>sf (af t.kids 0) fun x8=>aa k (JM k 15 r1.2.2.2.2 [(ac x8),(Tm.mk r1.1 r1.2.1 r1.2.2.1 [] r1.2.2.2.1 [])]) fun r9=>aa k (y9 k (ac r7.1) (Tm.mk r2.1 r2.2.1 r2.2.2.1 [] r2.2.2.2.1 []) r2.2.2.2.2 r7.2) fun r10=>aa k (zc k 8 [(Tm.mk r9.1 r9.2.1 r9.2.2.1 [] r9.2.2.2.1 r9.2.2.2.2),(ac r10.1)]) fun r11=>I (r11.1,r11.2.1,r11.2.2.1,r11.2.2.2,r10.2)
def axb (k:Nat) (I:Int×Int×BA×LT×Int->OS S) (c0_1 sx:Int) (wl:BA) (aas:LC) (abq:LT) (abZ c0_7:LB) (t x1 x2:Tm) (r6:Int×Int×BA×LC×LT) (rec0:Int->(LB)->Int->OS S) (apx:Int) (sys10:LB) (v53:Int):OS S:=ab (decide ((v53:Int)<(c0_7.length:Int))) (sf (af c0_7 v53) fun x7=>aa k (JK k x7.face 1 apx) fun r8=>sf (af x7.kids 0) fun x9=>aa k (JJ k (ac x9) 1 r8.2) fun r10=>aa k (zb k (ac x1) 0 2 r10.2) fun r11=>aa k (zb k (ac x2) 0 2 r11.2) fun r12=>aa k (tO k 13 [(Cl.mk 2 0)] [(ac r10.1),(ac r11.1),(ac r12.1)]) fun r13=>aa k (nf k r8.1 [(Tm.mk r13.1 r13.2.1 r13.2.2.1 r13.2.2.2.1 r13.2.2.2.2 [])]) fun r14=>sf (aw 1099511627776 sys10.length [r14].length) fun x15=>rec0 r12.2 (sys10++[r14]) (su .i64 (v53+1))) (aa k (zb k (ac x1) 0 2 apx) fun r16=>aa k (nf k [(Cl.mk 0 1)] [(ac r16.1)]) fun r17=>sf (aw 1099511627776 sys10.length [r17].length) fun x18=>aa k (zb k (ac x2) 0 2 r16.2) fun r19=>aa k (nf k [(Cl.mk 1 0)] [(ac r19.1)]) fun r20=>sf (aw 1099511627776 (sys10++[r17]).length [r20].length) fun x21=>sf (af t.kids 0) fun x22=>aa k (JM k 15 ((sys10++[r17])++[r20]) [(ac x22),(Tm.mk r6.1 r6.2.1 r6.2.2.1 r6.2.2.2.1 r6.2.2.2.2 [])]) fun r23=>aa k (zc k 12 [(Tm.mk r23.1 r23.2.1 r23.2.2.1 [] r23.2.2.2.1 r23.2.2.2.2)]) fun r24=>I (r24.1,r24.2.1,r24.2.2.1,r24.2.2.2,r19.2))
def avW (k:Nat) (I:Int×Int×BA×LT×Int->OS S) (c0_1 sx:Int) (wl:BA) (aas:LC) (abq:LT) (abZ c0_7:LB) (t x1 x2:Tm) (r6:Int×Int×BA×LC×LT):Nat->Int->(LB)->Int->OS S
 |0=>fun _ _ _=> .none
 |m+1=>fun apx sys10 v53=>axb k I c0_1 sx wl aas abq abZ c0_7 t x1 x2 r6 (avW k I c0_1 sx wl aas abq abZ c0_7 t x1 x2 r6 m) apx sys10 v53
def aAe (k:Nat) (I:Int×Int×BA×LT×Int->OS S) (J0:Tm->Tm->(Int×Int×BA×LC×LT)->Int->(LB)->Int->OS S) (t:Tm) (alJ c0_1 sx:Int) (wl:BA) (aas:LC) (abq:LT) (abZ c0_7:LB):OS S:=sf (af t.kids 1) fun x1=>sf (af t.kids 2) fun x2=>aa k (zb k (Tm.mk c0_1 sx wl aas abq abZ) 0 1 alJ) fun r3=>aa k (zb k (ac x1) 0 1 r3.2) fun r4=>aa k (zb k (ac x2) 0 1 r4.2) fun r5=>aa k (tO k 13 [(Cl.mk 1 0)] [(ac r3.1),(ac r4.1),(ac r5.1)]) fun r6=>J0 x1 x2 r6 r5.2 ([]:LB) 0
def axG (k:Nat) (t:Tm) (alJ c0_1 sx:Int) (wl:BA) (aas:LC) (abq:LT) (abZ c0_7:LB) (I:Int×Int×BA×LT×Int->OS S):OS S:=aAe k I (fun x1 x2 r6 apx sys10 v53=>avW k I c0_1 sx wl aas abq abZ c0_7 t x1 x2 r6 k apx sys10 v53) t alJ c0_1 sx wl aas abq abZ c0_7
def axt (k:Nat) (t:Tm) (c0:Int) (I:Int×Int×BA×LT×Int->OS S):OS S:=aa k (arP k (ac t) 1 0 c0) fun r1=>aa k (arP k (ac t) 2 1 r1.2) fun r2=>aa k (asX k 1) fun r3=>aa k (asX k 0) fun r4=>aa k (arj k 11 [(ac r2.1),(Tm.mk r3.1 r3.2.1 r3.2.2 [] [] []),(Tm.mk r4.1 r4.2.1 r4.2.2 [] [] [])]) fun r5=>aa k (arj k 4 [(ac r1.1),(Tm.mk r5.1 r5.2.1 r5.2.2.1 [] r5.2.2.2 [])]) fun r6=>aa k (arj k 7 [(ac t),(Tm.mk r6.1 r6.2.1 r6.2.2.1 [] r6.2.2.2 [])]) fun r7=>I (r7.1,r7.2.1,r7.2.2.1,r7.2.2.2,r2.2)
def axp (k:Nat) (t a:Tm) (I:Tm×Int->OS S):OS S:=aa k (m9 k [(ac t),(ac a)]) fun r1=>dJ k (ac t) fun r2=>aa k (arP k (ac a) 1 0 r1) fun r3=>aa k (arj k 4 [(ac r2),(ac r3.1)]) fun r4=>aa k (arP k (ac a) 1 0 r3.2) fun r5=>aa k (arP k (ac t) 2 0 r5.2) fun r6=>aa k (arP k (ac a) 2 0 r6.2) fun r7=>aa k (asX k 1) fun r8=>aa k (asX k 0) fun r9=>aa k (au2 k (ac r6.1) (ac r7.1) (Tm.mk r8.1 r8.2.1 r8.2.2 [] [] []) (Tm.mk r9.1 r9.2.1 r9.2.2 [] [] []) r7.2) fun r10=>aa k (axt k (Tm.mk r10.1 r10.2.1 r10.2.2.1 [] r10.2.2.2.1 []) r10.2.2.2.2) fun r11=>aa k (arj k 4 [(ac r5.1),(Tm.mk r11.1 r11.2.1 r11.2.2.1 [] r11.2.2.2.1 [])]) fun r12=>aa k (arj k 7 [(Tm.mk r4.1 r4.2.1 r4.2.2.1 [] r4.2.2.2 []),(Tm.mk r12.1 r12.2.1 r12.2.2.1 [] r12.2.2.2 [])]) fun r13=>aa k (eQ k (Tm.mk r13.1 r13.2.1 r13.2.2.1 [] r13.2.2.2 []) r11.2.2.2.2) fun r14=>I ((ac r14.1),r14.2.1)
def axV (k:Nat) (t a:Tm) (c0:Int) (I:Tm×Int->OS S):OS S:=aa k (dG k c0) fun r1=>ab (!r1) (I ((Tm.mk 0 0 alH [] [] []),c0)) (aa k (axp k (ac t) (ac a)) fun r2=>aa k (asH k (ac r2.1) r2.2 c0) fun r3=>I ((ac r3.1),r3.2))
def ay2 (k:Nat) (a_r:LC) (I:Int×Int×BA×LC×LT->OS S):OS S:=aa k (asX k 0) fun r1=>aa k (arj k 10 [(Tm.mk r1.1 r1.2.1 r1.2.2 [] [] [])]) fun r2=>aa k (asX k 1) fun r3=>aa k (asX k 0) fun r4=>aa k (arj k 9 [(Tm.mk r4.1 r4.2.1 r4.2.2 [] [] [])]) fun r5=>I (13,0,alH,a_r,[(Tm.mk r2.1 r2.2.1 r2.2.2.1 [] r2.2.2.2 []),(Tm.mk r3.1 r3.2.1 r3.2.2 [] [] []),(Tm.mk r5.1 r5.2.1 r5.2.2.1 [] r5.2.2.2 [])])
def axr (k:Nat) (I:Int×Int×BA×LT->OS S):OS S:=aa k (asX k 0) fun r1=>aa k (asX k 0) fun r2=>aa k (arj k 12 [(Tm.mk r2.1 r2.2.1 r2.2.2 [] [] [])]) fun r3=>aa k (arj k 8 [(Tm.mk r1.1 r1.2.1 r1.2.2 [] [] []),(Tm.mk r3.1 r3.2.1 r3.2.2.1 [] r3.2.2.2 [])]) fun r4=>aa k (ay2 k [(Cl.mk 1 0)]) fun r5=>aa k (ay2 k [(Cl.mk 3 0)]) fun r6=>aa k (arj k 12 [(Tm.mk r6.1 r6.2.1 r6.2.2.1 r6.2.2.2.1 r6.2.2.2.2 [])]) fun r7=>aa k (arj k 8 [(Tm.mk r5.1 r5.2.1 r5.2.2.1 r5.2.2.2.1 r5.2.2.2.2 []),(Tm.mk r7.1 r7.2.1 r7.2.2.1 [] r7.2.2.2 [])]) fun r8=>aa k (arj k 12 [(Tm.mk r8.1 r8.2.1 r8.2.2.1 [] r8.2.2.2 [])]) fun r9=>aa k (arj k 5 [(Tm.mk r9.1 r9.2.1 r9.2.2.1 [] r9.2.2.2 [])]) fun r10=>aa k (asX k 0) fun r11=>aa k (arj k 5 [(Tm.mk r11.1 r11.2.1 r11.2.2 [] [] [])]) fun r12=>aa k (arj k 8 [(Tm.mk r4.1 r4.2.1 r4.2.2.1 [] r4.2.2.2 []),(Tm.mk r10.1 r10.2.1 r10.2.2.1 [] r10.2.2.2 [])]) fun r13=>aa k (arj k 5 [(Tm.mk r13.1 r13.2.1 r13.2.2.1 [] r13.2.2.2 [])]) fun r14=>aa k (arj k 8 [(Tm.mk r12.1 r12.2.1 r12.2.2.1 [] r12.2.2.2 []),(Tm.mk r14.1 r14.2.1 r14.2.2.1 [] r14.2.2.2 [])]) fun r15=>I (r15.1,r15.2.1,r15.2.2.1,r15.2.2.2)
def azb (k:Nat) (u:Tm) (aqS aph api:Int) (apl:BA) (apm:LC) (apn:LT) (apr aps:LB) (I:LT×Int->OS S):OS S:=aa k (JI k (ac u) aqS) fun r1=>aa k (zb k (Tm.mk aph api apl apm apn apr) 0 1 r1.2) fun r2=>aa k (axV k (ac u) (ac r2.1) r2.2) fun r3=>aa k (axr k) fun r4=>aa k (zc k 14 [(ac r3.1),(Tm.mk r4.1 r4.2.1 r4.2.2.1 [] r4.2.2.2 [])]) fun r5=>I ([(ac r1.1),(Tm.mk r5.1 r5.2.1 r5.2.2.1 [] r5.2.2.2 [])],r3.2)
def axd (k:Nat) (I:LB×Int->OS S) (c0_1 sx:Int) (wl:BA) (aas:LC) (abq:LT) (abZ c0_7:LB) (rec0:Int->Int->(LB)->OS S) (apx v13:Int) (out5:LB):OS S:=ab (decide ((v13:Int)<(c0_7.length:Int))) (sf (af c0_7 v13) fun x1=>sf (af x1.kids 0) fun x2=>aa k (azb k (ac x2) apx c0_1 sx wl aas abq abZ c0_7) fun r3=>aa k (nf k x1.face r3.1) fun r4=>sf (aw 1099511627776 out5.length [r4].length) fun x5=>rec0 r3.2 (su .i64 (v13+1)) (out5++[r4])) (I (out5,apx))
def avY (k:Nat) (I:LB×Int->OS S) (c0_1 sx:Int) (wl:BA) (aas:LC) (abq:LT) (abZ c0_7:LB):Nat->Int->Int->(LB)->OS S
 |0=>fun _ _ _=> .none
 |m+1=>fun apx v13 out5=>axd k I c0_1 sx wl aas abq abZ c0_7 (avY k I c0_1 sx wl aas abq abZ c0_7 m) apx v13 out5
def aAg (k:Nat) (I:LB×Int->OS S) (J0:Int->Int->(LB)->OS S) (alJ c0_1 sx:Int) (wl:BA) (aas:LC) (abq:LT) (abZ c0_7:LB):OS S:=J0 alJ 0 ([]:LB)
def avB (k:Nat) (alJ c0_1 sx:Int) (wl:BA) (aas:LC) (abq:LT) (abZ c0_7:LB) (I:LB×Int->OS S):OS S:=aAg k I (fun apx v13 out5=>avY k I c0_1 sx wl aas abq abZ c0_7 k apx v13 out5) alJ c0_1 sx wl aas abq abZ c0_7
def axK (k:Nat) (alJ c0_1 sx:Int) (wl:BA) (aas:LC) (abq:LT) (abZ c0_7:LB) (I:Int×Int×BA×LT×LB×Int->OS S):OS S:=aa k (avB k alJ c0_1 sx wl aas abq abZ c0_7) fun r1=>aa k (JM k 16 r1.1 [(Tm.mk c0_1 sx wl aas abq abZ)]) fun r2=>I (r2.1,r2.2.1,r2.2.2.1,r2.2.2.2.1,r2.2.2.2.2,r1.2)
def axz (k:Nat) (a_x:(Br Tm)) (c1:LB) (c2:Int) (I:(Br Tm)×Int->OS S):OS S:=aa k (zc k 3 ([]:LT)) fun r1=>aa k (aun k (Tm.mk r1.1 r1.2.1 r1.2.2.1 [] r1.2.2.2 []) c1) fun r2=>aa k (zb k (Tm.mk r2.1 r2.2.1 r2.2.2.1 [] r2.2.2.2.1 r2.2.2.2.2) 0 1 c2) fun r3=>sf (af a_x.kids 0) fun x4=>aa k (nf k a_x.face [(Tm.mk r3.1.kind r3.1.n r3.1.name r3.1.r [(ac x4)] r3.1.sys)]) fun r5=>I (r5,r3.2)
def aw8 (k:Nat) (I:LB×Int->OS S) (c1 l:LB) (rec0:Int->Int->(LB)->OS S) (atA v10:Int) (out5:LB):OS S:=ab (decide ((v10:Int)<(l.length:Int))) (sf (af l v10) fun x1=>aa k (axz k x1 c1 atA) fun r2=>sf (aw 1099511627776 out5.length [r2.1].length) fun x3=>rec0 r2.2 (su .i64 (v10+1)) (out5++[r2.1])) (I (out5,atA))
def avT (k:Nat) (I:LB×Int->OS S) (c1 l:LB):Nat->Int->Int->(LB)->OS S
 |0=>fun _ _ _=> .none
 |m+1=>fun atA v10 out5=>aw8 k I c1 l (avT k I c1 l m) atA v10 out5
def aDn (k:Nat) (I:LB×Int->OS S) (J0:Int->Int->(LB)->OS S) (l c1:LB) (c2:Int):OS S:=J0 c2 0 ([]:LB)
def aAQ (k:Nat) (l c1:LB) (c2:Int) (I:LB×Int->OS S):OS S:=aDn k I (fun atA v10 out5=>avT k I c1 l k atA v10 out5) l c1 c2
def axA (k:Nat) (a_x:(Br Tm)) (c1 c2:Tm) (c3:Int) (I:(Br Tm)×Int->OS S):OS S:=sf (af a_x.kids 1) fun x1=>aa k (zb k (ac x1) 0 1 c3) fun r2=>aa k (aum k (ac r2.1)) fun r3=>sf (af a_x.kids 0) fun x4=>aa k (y_ k (ac x4) (ac c1) c2.sys r2.2) fun r5=>aa k (zc k 6 [(Tm.mk r3.1 r3.2.1 r3.2.2.1 [] r3.2.2.2 []),(ac r5.1)]) fun r6=>aa k (nf k a_x.face [(Tm.mk r6.1 r6.2.1 r6.2.2.1 [] r6.2.2.2 [])]) fun r7=>I (r7,r5.2)
def aw7 (k:Nat) (I:LB×Int->OS S) (c1 c2:Tm) (l:LB) (rec0:Int->Int->(LB)->OS S) (aro v10:Int) (out5:LB):OS S:=ab (decide ((v10:Int)<(l.length:Int))) (sf (af l v10) fun x1=>aa k (axA k x1 (ac c1) (ac c2) aro) fun r2=>sf (aw 1099511627776 out5.length [r2.1].length) fun x3=>rec0 r2.2 (su .i64 (v10+1)) (out5++[r2.1])) (I (out5,aro))
def avS (k:Nat) (I:LB×Int->OS S) (c1 c2:Tm) (l:LB):Nat->Int->Int->(LB)->OS S
 |0=>fun _ _ _=> .none
 |m+1=>fun aro v10 out5=>aw7 k I c1 c2 l (avS k I c1 c2 l m) aro v10 out5
def aDm (k:Nat) (I:LB×Int->OS S) (J0:Int->Int->(LB)->OS S) (l:LB) (c1 c2:Tm) (c3:Int):OS S:=J0 c3 0 ([]:LB)
def ay9 (k:Nat) (l:LB) (c1 c2:Tm) (c3:Int) (I:LB×Int->OS S):OS S:=aDm k I (fun aro v10 out5=>avS k I c1 c2 l k aro v10 out5) l c1 c2 c3
def ay6 (k:Nat) (a_x:(Br Tm)) (c0 c1:Tm) (I:(Br Tm)->OS S):OS S:=sf (af a_x.kids 0) fun x1=>aa k (JM k 15 c0.sys [(ac x1),(ac c1)]) fun r2=>aa k (nf k a_x.face [(Tm.mk r2.1 r2.2.1 r2.2.2.1 [] r2.2.2.2.1 r2.2.2.2.2)]) fun r3=>I r3
def aw6 (k:Nat) (I:LB->OS S) (c0 c1:Tm) (l:LB) (rec0:Int->(LB)->OS S) (v10:Int) (out5:LB):OS S:=ab (decide ((v10:Int)<(l.length:Int))) (sf (af l v10) fun x1=>aa k (ay6 k x1 (ac c0) (ac c1)) fun r2=>sf (aw 1099511627776 out5.length [r2].length) fun x3=>rec0 (su .i64 (v10+1)) (out5++[r2])) (I out5)
def avR (k:Nat) (I:LB->OS S) (c0 c1:Tm) (l:LB):Nat->Int->(LB)->OS S
 |0=>fun _ _=> .none
 |m+1=>fun v10 out5=>aw6 k I c0 c1 l (avR k I c0 c1 l m) v10 out5
def aAb (k:Nat) (I:LB->OS S) (J0:Int->(LB)->OS S) (l:LB) (c0 c1:Tm):OS S:=J0 0 ([]:LB)
def awr (k:Nat) (l:LB) (c0 c1:Tm) (I:LB->OS S):OS S:=aAb k I (fun v10 out5=>avR k I c0 c1 l k v10 out5) l c0 c1
def axy (k:Nat) (t:Tm) (I:Tm×Bool×Int->OS S):OS S:=aa k (asi k (ac t)) fun r1=>ab (!(r1==0)) (I ((Tm.mk 0 0 alH [] [] []),false,r1)) (ab (!(t.kind==15)) (I ((Tm.mk 0 0 alH [] [] []),false,0)) (sf (af t.kids 0) fun x2=>ab (!(x2.kind==16)) (I ((Tm.mk 0 0 alH [] [] []),false,0)) (dJ k (ac t) fun r3=>sf (af r3.kids 0) fun x4=>sf (af r3.kids 1) fun x5=>sf (af r3.kids 0) fun x6=>aa k (au4 k (ac x6)) fun r7=>aa k (aAQ k r3.sys r7 0) fun r8=>aa k (ay9 k x4.sys (ac x5) (ac r3) r8.2) fun r9=>sf (aw 1099511627776 r8.1.length r9.1.length) fun x10=>sf (af x4.kids 0) fun x11=>aa k (aun k (ac x5) r7) fun r12=>aa k (JM k 15 (r8.1++r9.1) [(ac x11),(Tm.mk r12.1 r12.2.1 r12.2.2.1 [] r12.2.2.2.1 r12.2.2.2.2)]) fun r13=>aa k (awr k x4.sys (ac r3) (ac x5)) fun r14=>aa k (JM k 17 r14 [(Tm.mk r13.1 r13.2.1 r13.2.2.1 [] r13.2.2.2.1 r13.2.2.2.2)]) fun r15=>aa k (ly k (Tm.mk r15.1 r15.2.1 r15.2.2.1 [] r15.2.2.2.1 r15.2.2.2.2) r9.2) fun r16=>I ((ac r16.1),r16.2.1,r16.2.2.1))))
def cG (k:Nat) (t:Tm) (I:Tm×Bool×Int->OS S):OS S:=aa k (asi k (ac t)) fun r1=>ab (!(r1==0)) (I ((Tm.mk 0 0 alH [] [] []),false,r1)) (ab (!(t.kind==15)) (I ((Tm.mk 0 0 alH [] [] []),false,0)) (dJ k (ac t) fun r2=>sf (af r2.kids 1) fun x3=>sf (af r2.kids 0) fun x4=>ab (x4.kind==4) (aa k (axI k (ac x4) 0 x3.kind x3.n x3.name x3.r x3.kids x3.sys r2.sys) fun r5=>aa k (ly k (Tm.mk r5.1 r5.2.1 r5.2.2.1 [] r5.2.2.2.1 []) r5.2.2.2.2) fun r6=>I ((ac r6.1),r6.2.1,r6.2.2.1)) (ab (x4.kind==7) (aa k (axJ k (ac x4) 0 x3.kind x3.n x3.name x3.r x3.kids x3.sys r2.sys) fun r7=>aa k (ly k (Tm.mk r7.1 r7.2.1 r7.2.2.1 [] r7.2.2.2.1 []) r7.2.2.2.2) fun r8=>I ((ac r8.1),r8.2.1,r8.2.2.1)) (ab (x4.kind==11) (aa k (axG k (ac x4) 0 x3.kind x3.n x3.name x3.r x3.kids x3.sys r2.sys) fun r9=>aa k (ly k (Tm.mk r9.1 r9.2.1 r9.2.2.1 [] r9.2.2.2.1 []) r9.2.2.2.2) fun r10=>I ((ac r10.1),r10.2.1,r10.2.2.1)) (ab (x4.kind==3) (aa k (axK k 0 x3.kind x3.n x3.name x3.r x3.kids x3.sys r2.sys) fun r11=>aa k (ly k (Tm.mk r11.1 r11.2.1 r11.2.2.1 [] r11.2.2.2.1 r11.2.2.2.2.1) r11.2.2.2.2.2) fun r12=>I ((ac r12.1),r12.2.1,r12.2.2.1)) (ab (x4.kind==16) (aa k (axy k (ac r2)) fun r13=>I ((ac r13.1),r13.2.1,r13.2.2)) (I ((Tm.mk 0 0 alH [] [] []),false,0))))))))
def co (k:Nat) (I:Tm×Bool×Int->OS S) (t:Tm) (defs:List Df):OS S:=aa k (cR k defs (ac t)) fun r3=>ab (r3.2) (I ((ac r3.1),true,0)) (I ((Tm.mk 0 0 alH [] [] []),false,0))
def bK (k:Nat) (I:Tm×Bool×Int->OS S) (t:Tm) (defs:List Df):Nat->OS S
 |0=> .none
 |_+1=>co k I t defs
def bu (k:Nat) (I:Tm×Bool×Int->OS S) (t:Tm) (defs:List Df) (J1:OS S) (rec0:Int->Int->BA->(LC)->(LT)->(LB)->Int->Int->Bool->OS S) (ar4 ar5:Int) (ar6:BA) (ar7:LC) (ar8:LT) (b8_5:LB) (v10 v20:Int) (told9:Bool):OS S:=ab (decide ((v20:Int)<4)) (ab (v20==0) (aa k (axl k (ac t)) fun r2=>ab (r2.2.1) (ab (r2.2.1) (I ((ac r2.1),r2.2.1,r2.2.2)) (ab (!(r2.2.2==0)) (I ((ac r2.1),r2.2.1,r2.2.2)) (J1))) (ab (!(r2.2.2==0)) (ab (r2.2.1) (I ((ac r2.1),r2.2.1,r2.2.2)) (ab (!(r2.2.2==0)) (I ((ac r2.1),r2.2.1,r2.2.2)) (J1))) (rec0 r2.1.kind r2.1.n r2.1.name r2.1.r r2.1.kids r2.1.sys r2.2.2 (su .i64 (v20+1)) r2.2.1))) (ab (v20==1) (aa k (tL k (ac t)) fun r4=>ab (r4.2.1) (ab (r4.2.1) (I ((ac r4.1),r4.2.1,r4.2.2)) (ab (!(r4.2.2==0)) (I ((ac r4.1),r4.2.1,r4.2.2)) (J1))) (ab (!(r4.2.2==0)) (ab (r4.2.1) (I ((ac r4.1),r4.2.1,r4.2.2)) (ab (!(r4.2.2==0)) (I ((ac r4.1),r4.2.1,r4.2.2)) (J1))) (rec0 r4.1.kind r4.1.n r4.1.name r4.1.r r4.1.kids r4.1.sys r4.2.2 (su .i64 (v20+1)) r4.2.1))) (ab (v20==2) (aa k (axZ k (ac t)) fun r5=>ab (r5.2.1) (ab (r5.2.1) (I ((ac r5.1),r5.2.1,r5.2.2)) (ab (!(r5.2.2==0)) (I ((ac r5.1),r5.2.1,r5.2.2)) (J1))) (ab (!(r5.2.2==0)) (ab (r5.2.1) (I ((ac r5.1),r5.2.1,r5.2.2)) (ab (!(r5.2.2==0)) (I ((ac r5.1),r5.2.1,r5.2.2)) (J1))) (rec0 r5.1.kind r5.1.n r5.1.name r5.1.r r5.1.kids r5.1.sys r5.2.2 (su .i64 (v20+1)) r5.2.1))) (ab (v20==3) (aa k (cG k (ac t)) fun r6=>ab (r6.2.1) (ab (r6.2.1) (I ((ac r6.1),r6.2.1,r6.2.2)) (ab (!(r6.2.2==0)) (I ((ac r6.1),r6.2.1,r6.2.2)) (J1))) (ab (!(r6.2.2==0)) (ab (r6.2.1) (I ((ac r6.1),r6.2.1,r6.2.2)) (ab (!(r6.2.2==0)) (I ((ac r6.1),r6.2.1,r6.2.2)) (J1))) (rec0 r6.1.kind r6.1.n r6.1.name r6.1.r r6.1.kids r6.1.sys r6.2.2 (su .i64 (v20+1)) r6.2.1))) (ab (told9) (ab (told9) (I ((Tm.mk ar4 ar5 ar6 ar7 ar8 b8_5),told9,v10)) (ab (!(v10==0)) (I ((Tm.mk ar4 ar5 ar6 ar7 ar8 b8_5),told9,v10)) (J1))) (ab (!(v10==0)) (ab (told9) (I ((Tm.mk ar4 ar5 ar6 ar7 ar8 b8_5),told9,v10)) (ab (!(v10==0)) (I ((Tm.mk ar4 ar5 ar6 ar7 ar8 b8_5),told9,v10)) (J1))) (rec0 ar4 ar5 ar6 ar7 ar8 b8_5 v10 (su .i64 (v20+1)) told9))))))) (ab (told9) (I ((Tm.mk ar4 ar5 ar6 ar7 ar8 b8_5),told9,v10)) (ab (!(v10==0)) (I ((Tm.mk ar4 ar5 ar6 ar7 ar8 b8_5),told9,v10)) (J1)))
def bH (k:Nat) (I:Tm×Bool×Int->OS S) (t:Tm) (defs:List Df):Nat->Int->Int->BA->(LC)->(LT)->(LB)->Int->Int->Bool->OS S
 |0=>fun _ _ _ _ _ _ _ _ _=> .none
 |m+1=>fun ar4 ar5 ar6 ar7 ar8 b8_5 v10 v20 told9=>bu k I t defs (bK k I t defs k) (bH k I t defs m) ar4 ar5 ar6 ar7 ar8 b8_5 v10 v20 told9
def aAp (k:Nat) (I:Tm×Bool×Int->OS S) (J0:Int->Int->BA->(LC)->(LT)->(LB)->Int->Int->Bool->OS S) (defs:List Df) (t:Tm):OS S:=aa k (asi k (ac t)) fun r1=>ab (!(r1==0)) (I ((Tm.mk 0 0 alH [] [] []),false,r1)) (J0 0 0 alH [] [] [] 0 0 false)
def a_ (k:Nat) (defs:List Df) (t:Tm) (I:Tm×Bool×Int->OS S):OS S:=aAp k I (fun ar4 ar5 ar6 ar7 ar8 b8_5 v10 v20 told9=>bH k I t defs k ar4 ar5 ar6 ar7 ar8 b8_5 v10 v20 told9) defs t
def awm (k:Nat) (I:Pan (Int×Int) (Tm×Bool×Int)->OS S) (alJ:List Df) (c0_1:Int) (r1:Tm×Bool×Int):OS S:=ab (c0_1==0) (I (.pan (220,c0_1))) (I (.ok ((ac r1.1),true,su .i64 (c0_1-1))))
def ayf (k:Nat) (I:Pan (Int×Int) (Tm×Bool×Int)->OS S) (alJ:List Df) (c0_1:Int) (r1:Tm×Bool×Int):Nat->OS S
 |0=> .none
 |_+1=>awm k I alJ c0_1 r1
def awl (k:Nat) (I:Pan (Int×Int) (Tm×Bool×Int)->OS S) (alJ:List Df) (c0_1:Int) (t:Tm) (r1:Tm×Bool×Int) (J1:OS S):OS S:=ab (!r1.2.1) (ab (r1.2.2==0) (I (.ok ((ac t),false,c0_1))) (J1)) (J1)
def azv (k:Nat) (I:Pan (Int×Int) (Tm×Bool×Int)->OS S) (alJ:List Df) (c0_1:Int) (t:Tm) (r1:Tm×Bool×Int):Nat->OS S
 |0=> .none
 |_+1=>awl k I alJ c0_1 t r1 (ayf k I alJ c0_1 r1 k)
def aAi (k:Nat) (I:Pan (Int×Int) (Tm×Bool×Int)->OS S) (J0:(Tm×Bool×Int)->OS S) (t:Tm) (alJ:List Df) (c0_1:Int):OS S:=aa k (a_ k alJ (ac t)) fun r1=>ab (!(r1.2.2==0)) (ab (decide ((c0_1:Int)>0)) (I (.pan (r1.2.2,c0_1))) (J0 r1)) (J0 r1)
def axL (k:Nat) (t:Tm) (alJ:List Df) (c0_1:Int) (I:Pan (Int×Int) (Tm×Bool×Int)->OS S):OS S:=aAi k I (fun r1=>azv k I alJ c0_1 t r1 k) t alJ c0_1
def bo (k:Nat) (I:Int->OS S) (t:Tm) (v3:Int):OS S:=aa k (zA k t.kind) fun r1=>ab (decide (((t.kids.length:Int):Int)<r1)) (I (-1)) (I v3)
def aV (k:Nat) (I:Int->OS S) (t:Tm):Nat->Int->OS S
 |0=>fun _=> .none
 |_+1=>fun v3=>bo k I t v3
def aAo (k:Nat) (I:Int->OS S) (J0:Int->OS S) (t:Tm):OS S:=ab (t.kind==6) (J0 0) (ab (t.kind==9) (J0 0) (ab (t.kind==10) (J0 0) (ab (t.kind==13) (J0 0) (ab (t.kind==18) (J0 0) (ab (t.kind==15) (J0 0) (ab (t.kind==14) (J0 0) (ab (t.kind==22) (J0 3) (ab (t.kind==27) (J0 4) (J0 (-1))))))))))
def aU (k:Nat) (t:Tm) (I:Int->OS S):OS S:=aAo k I (fun v3=>aV k I t k v3) t
abbrev arT (S:Type):=Tm->Tm->(Bool->OS S)->OS S
def axi (hd:arT S) (k:Nat) (I:Bool->OS S) (s2 s1:LT) (rec0:Int->OS S) (v17:Int):OS S:=ab (decide ((v17:Int)<(s1.length:Int))) (sf (af s1 v17) fun x1=>sf (af s2 v17) fun x2=>hd (ac x1) (ac x2) fun r3=>ab (!r3) (I false) (rec0 (su .i64 (v17+1)))) (I true)
def av3 (hd:arT S) (k:Nat) (I:Bool->OS S) (s2 s1:LT):Nat->Int->OS S
 |0=>fun _=> .none
 |m+1=>fun v17=>axi hd k I s2 s1 (av3 hd k I s2 s1 m) v17
def aAm (hd:arT S) (k:Nat) (I:Bool->OS S) (J0:Int->OS S) (s1 s2:LT):OS S:=ab (!((s1.length:Int)==(s2.length:Int))) (I false) (J0 0)
def awv (hd:arT S) (k:Nat) (s1 s2:LT) (I:Bool->OS S):OS S:=aAm hd k I (fun v17=>av3 hd k I s2 s1 k v17) s1 s2
def axY (hd:arT S) (k:Nat) (a_x y:(Br Tm)) (I:Bool->OS S):OS S:=aa k (zz k a_x.face y.face) fun r1=>ab (r1) (aa k (awv hd k a_x.kids y.kids) fun r2=>I r2) (I false)
def axh (hd:arT S) (k:Nat) (I:Bool->OS S) (s2 s1:LB) (rec0:Int->OS S) (v17:Int):OS S:=ab (decide ((v17:Int)<(s1.length:Int))) (sf (af s1 v17) fun x1=>sf (af s2 v17) fun x2=>aa k (axY hd k x1 x2) fun r3=>ab (!r3) (I false) (rec0 (su .i64 (v17+1)))) (I true)
def av2 (hd:arT S) (k:Nat) (I:Bool->OS S) (s2 s1:LB):Nat->Int->OS S
 |0=>fun _=> .none
 |m+1=>fun v17=>axh hd k I s2 s1 (av2 hd k I s2 s1 m) v17
def aAl (hd:arT S) (k:Nat) (I:Bool->OS S) (J0:Int->OS S) (s1 s2:LB):OS S:=ab (!((s1.length:Int)==(s2.length:Int))) (I false) (J0 0)
def axX (hd:arT S) (k:Nat) (s1 s2:LB) (I:Bool->OS S):OS S:=aAl hd k I (fun v17=>av2 hd k I s2 s1 k v17) s1 s2
def aAr (hd:arT S) (k:Nat) (I:Bool->OS S) (a b:Tm):OS S:=ab (a.kind==b.kind) (ab (a.n==b.n) (ab (a.name==b.name) (aa k (zz k a.r b.r) fun r1=>ab (r1) (aa k (awv hd k a.kids b.kids) fun r2=>ab (r2) (aa k (axX hd k a.sys b.sys) fun r3=>I r3) (I false)) (I false)) (I false)) (I false)) (I false)
def ate:Nat->Tm->Tm->(Bool->OS S)->OS S
 |0=>fun _ _ _=> .none
 |k+1=>fun a b I=>aAr (ate k) k I a b
abbrev atG (S:Type):=Tm->(List Df)->Int->(Pan (Int×Int) (Tm×Int)->OS S)->OS S
def auo (hd:atG S) (k:Nat) (t:Tm) (a_at:Int) (alJ:List Df) (c0_1:Int) (I:Pan (Int×Int) (Tm×Bool×Int)->OS S):OS S:=sf (af t.kids a_at) fun x1=>hd (ac x1) alJ c0_1 fun r3=>Pan.elim r3 (fun r3=>sf (af t.kids a_at) fun x5=>ate k (ac r3.1) (ac x5) fun r6=>ab (r6) (I (.ok ((ac t),false,r3.2))) (sf (aw 1099511627776 0 t.kids.length) fun x7=>sf (af t.kids a_at) fun x8=>sf (af t.kids a_at) fun x9=>I (.ok ((Tm.mk t.kind t.n t.name t.r (t.kids.set (arM a_at) (ac r3.1)) t.sys),true,r3.2)))) (fun e4=>I (.pan (e4.1,e4.2)))
def ayZ (hd:atG S) (k:Nat) (I:Pan (Int×Int) (Tm×Int)->OS S) (alJ:List Df) (rec0:Int->Tm->OS S) (atN:Int) (b3:Tm):OS S:=aa k (axL k (ac b3) alJ atN) fun r2=>Pan.elim r2 (fun r2=>ab (r2.2.1) (rec0 r2.2.2 (ac r2.1)) (aa k (aU k (ac b3)) fun r4=>ab (decide ((r4:Int)>=0)) (aa k (auo hd k (ac b3) r4 alJ r2.2.2) fun r6=>Pan.elim r6 (fun r6=>ab (r6.2.1) (rec0 r6.2.2 (ac r6.1)) (ab (b3.kind==14) (sf (af b3.kids 0) fun x8=>ab (x8.kind==23) (aa k (auo hd k (ac b3) 1 alJ r6.2.2) fun r10=>Pan.elim r10 (fun r10=>ab (r10.2.1) (rec0 r10.2.2 (ac r10.1)) (I (.ok ((ac b3),r10.2.2)))) (fun e11=>I (.pan (e11.1,e11.2)))) (I (.ok ((ac b3),r6.2.2)))) (I (.ok ((ac b3),r6.2.2))))) (fun e7=>I (.pan (e7.1,e7.2)))) (ab (b3.kind==14) (sf (af b3.kids 0) fun x12=>ab (x12.kind==23) (aa k (auo hd k (ac b3) 1 alJ r2.2.2) fun r14=>Pan.elim r14 (fun r14=>ab (r14.2.1) (rec0 r14.2.2 (ac r14.1)) (I (.ok ((ac b3),r14.2.2)))) (fun e15=>I (.pan (e15.1,e15.2)))) (I (.ok ((ac b3),r2.2.2)))) (I (.ok ((ac b3),r2.2.2)))))) (fun e3=>I (.pan (e3.1,e3.2)))
def aue (hd:atG S) (k:Nat) (I:Pan (Int×Int) (Tm×Int)->OS S) (alJ:List Df):Nat->Int->Tm->OS S
 |0=>fun _ _=> .none
 |m+1=>fun atN b3=>ayZ hd k I alJ (aue hd k I alJ m) atN b3
def ayL (hd:atG S) (k:Nat) (I:Pan (Int×Int) (Tm×Int)->OS S) (J0:Int->Tm->OS S) (t:Tm) (alJ:List Df) (c0_1:Int):OS S:=J0 c0_1 (ac t)
def ar1:Nat->Tm->(List Df)->Int->(Pan (Int×Int) (Tm×Int)->OS S)->OS S
 |0=>fun _ _ _ _=> .none
 |k+1=>fun t alJ c0_1 I=>ayL (ar1 k) k I (fun atN b3=>aue (ar1 k) k I alJ k atN b3) t alJ c0_1
def auI (k:Nat) (defs:List Df) (t:Tm) (fuel:Int) (I:Tm×Int×Int->OS S):OS S:=aa k (asi k (ac t)) fun r1=>ab (!(r1==0)) (I ((Tm.mk 0 0 alH [] [] []),0,r1)) (ab (decide ((fuel:Int)<0)) (I ((Tm.mk 0 0 alH [] [] []),0,2)) (ab (decide ((fuel:Int)>100000)) (I ((Tm.mk 0 0 alH [] [] []),0,2)) (dJ k (ac t) fun r2=>ar1 k (ac r2) defs fuel fun r4=>Pan.elim r4 (fun r4=>I ((ac r4.1),r4.2,0)) (fun e5=>I ((Tm.mk 0 0 alH [] [] []),0,e5.1)))))
def axR (k:Nat) (I:Bool->OS S):OS S:=aa k (aub k 1 ([]:LT)) fun r1=>aa k (aub k 5 [(Tm.mk r1.1 r1.2.1 r1.2.2.1 [] r1.2.2.2 [])]) fun r2=>aa k (aub k 20 ([]:LT)) fun r3=>aa k (aub k 8 [(Tm.mk r2.1 r2.2.1 r2.2.2.1 [] r2.2.2.2 []),(Tm.mk r3.1 r3.2.1 r3.2.2.1 [] r3.2.2.2 [])]) fun r4=>aa k (aub k 9 [(Tm.mk r4.1 r4.2.1 r4.2.2.1 [] r4.2.2.2 [])]) fun r5=>aa k (aub k 3 ([]:LT)) fun r6=>aa k (aub k 6 [(Tm.mk r5.1 r5.2.1 r5.2.2.1 [] r5.2.2.2 []),(Tm.mk r6.1 r6.2.1 r6.2.2.1 [] r6.2.2.2 [])]) fun r7=>aa k (auI k ([]:List Df) (Tm.mk r7.1 r7.2.1 r7.2.2.1 [] r7.2.2.2 []) 5) fun r8=>aa k (aub k 3 ([]:LT)) fun r9=>aa k (aub k 6 [(Tm.mk r5.1 r5.2.1 r5.2.2.1 [] r5.2.2.2 []),(Tm.mk r9.1 r9.2.1 r9.2.2.1 [] r9.2.2.2 [])]) fun r10=>aa k (auI k ([]:List Df) (Tm.mk r10.1 r10.2.1 r10.2.2.1 [] r10.2.2.2 []) 1) fun r11=>ab (r8.2.2==0) (ab (r8.1.kind==3) (ab (r8.2.1==3) (I (r11.2.2==220)) (I false)) (I false)) (I false)
abbrev gY (S:Type):=Tm->Int->(Int->OS S)->OS S
def xL (hd:gY S) (k:Nat) (I:Int->OS S) (t:Tm) (most i7:Int) (rec1:Int->Int->OS S) (rec2:Int->Int->OS S) (v5'' v8:Int):OS S:=sf (af t.sys i7) fun x5=>ab (decide ((v8:Int)<(x5.kids.length:Int))) (ab (decide ((v5'':Int)<=most)) (sf (af t.sys i7) fun x6=>sf (af x6.kids v8) fun x7=>hd (ac x7) (su .i64 (most-v5'')) fun r8=>rec2 (su .i64 (v5''+r8)) (su .i64 (v8+1))) (rec1 v5'' (su .i64 (i7+1)))) (rec1 v5'' (su .i64 (i7+1)))
def kA (hd:gY S) (k:Nat) (I:Int->OS S) (rec1:Int->Int->OS S) (t:Tm) (most i7:Int):Nat->Int->Int->OS S
 |0=>fun _ _=> .none
 |m+1=>fun v5'' v8=>xL hd k I t most i7 rec1 (kA hd k I rec1 t most i7 m) v5'' v8
def sS (hd:gY S) (k:Nat) (I:Int->OS S) (t:Tm) (most:Int) (J2:Int->Int->Int->OS S) (rec1:Int->Int->OS S) (v5' i7:Int):OS S:=ab (decide ((i7:Int)<(t.sys.length:Int))) (ab (decide ((v5':Int)<=most)) (sf (af t.sys i7) fun x3=>ab (decide (((x3.face.length:Int):Int)>most)) (I (su .i64 (most+1))) (sf (af t.sys i7) fun x4=>J2 i7 (su .i64 ((su .i64 (v5'+1))+(x4.face.length:Int))) 0)) (I v5')) (I v5')
def jl (hd:gY S) (k:Nat) (I:Int->OS S) (t:Tm) (most:Int):Nat->Int->Int->OS S
 |0=>fun _ _=> .none
 |m+1=>fun v5' i7=>sS hd k I t most (fun i7 v5'' v8=>kA hd k I (jl hd k I t most m) t most i7 k v5'' v8) (jl hd k I t most m) v5' i7
def sR (hd:gY S) (k:Nat) (I:Int->OS S) (t:Tm) (most:Int) (J1:Int->Int->OS S) (rec0:Int->Int->OS S) (v5 i6:Int):OS S:=ab (decide ((i6:Int)<(t.kids.length:Int))) (ab (decide ((v5:Int)<=most)) (sf (af t.kids i6) fun x1=>hd (ac x1) (su .i64 (most-v5)) fun r2=>rec0 (su .i64 (v5+r2)) (su .i64 (i6+1))) (J1 v5 0)) (J1 v5 0)
def nQ (hd:gY S) (k:Nat) (I:Int->OS S) (t:Tm) (most:Int):Nat->Int->Int->OS S
 |0=>fun _ _=> .none
 |m+1=>fun v5 i6=>sR hd k I t most (fun v5' i7=>jl hd k I t most k v5' i7) (nQ hd k I t most m) v5 i6
def Io (hd:gY S) (k:Nat) (I:Int->OS S) (J0:Int->Int->OS S) (t:Tm) (most:Int):OS S:=ab (decide (((t.r.length:Int):Int)>most)) (I (su .i64 (most+1))) (ab (decide (((t.name.size:Int):Int)>most)) (I (su .i64 (most+1))) (J0 (su .i64 ((su .i64 (1+(t.r.length:Int)))+(t.name.size:Int))) 0))
def gE:Nat->Tm->Int->(Int->OS S)->OS S
 |0=>fun _ _ _=> .none
 |k+1=>fun t most I=>Io (gE k) k I (fun v5 i6=>nQ (gE k) k I t most k v5 i6) t most
def axP (k:Nat) (t:Tm) (I:Bool->OS S):OS S:=gE k (ac t) 80 fun r1=>I (decide ((r1:Int)>80))
def axO (k:Nat) (t:Tm) (I:Bool->OS S):OS S:=gE k (ac t) 100 fun r1=>I (decide ((r1:Int)>100))
def axg (k:Nat) (I:Bool->OS S) (l:List Df) (rec0:Int->OS S) (v10:Int):OS S:=ab (decide ((v10:Int)<(l.length:Int))) (sf (af l v10) fun x1=>aa k (axO k (ac x1.body)) fun r2=>ab (r2) (I true) (ab (decide (((x1.name.size:Int):Int)>50)) (I true) (rec0 (su .i64 (v10+1))))) (I false)
def ave (k:Nat) (I:Bool->OS S) (l:List Df):Nat->Int->OS S
 |0=>fun _=> .none
 |m+1=>fun v10=>axg k I l (ave k I l m) v10
def aAk (k:Nat) (I:Bool->OS S) (J0:Int->OS S) (l:List Df):OS S:=ab (decide (((l.length:Int):Int)>8)) (I true) (J0 0)
def axN (k:Nat) (l:List Df) (I:Bool->OS S):OS S:=aAk k I (fun v10=>ave k I l k v10) l
def axf (k:Nat) (I:List Df->OS S) (l:List Df) (rec0:(List Df)->Int->OS S) (out3:List Df) (v8:Int):OS S:=ab (decide ((v8:Int)<(l.length:Int))) (sf (af l v8) fun x1=>sf (aw 1099511627776 out3.length [(ax9 x1)].length) fun x2=>rec0 (out3++[(ax9 x1)]) (su .i64 (v8+1))) (I out3)
def av0 (k:Nat) (I:List Df->OS S) (l:List Df):Nat->(List Df)->Int->OS S
 |0=>fun _ _=> .none
 |m+1=>fun out3 v8=>axf k I l (av0 k I l m) out3 v8
def aAj (k:Nat) (I:List Df->OS S) (J0:(List Df)->Int->OS S) (l:List Df):OS S:=J0 ([]:List Df) 0
def axM (k:Nat) (l:List Df) (I:List Df->OS S):OS S:=aAj k I (fun out3 v8=>av0 k I l k out3 v8) l
def awt (k:Nat) (a_n:Int) (I:Int->OS S):OS S:=ab (decide ((a_n:Int)<0)) (I a_n) (ab (decide ((a_n:Int)>100000)) (I a_n) (I (Int.tmod a_n 25)))
def oT (k:Nat) (I:Bool->OS S) (a b:LC) (rec0:Int->OS S) (i5:Int):OS S:=ab (decide ((i5:Int)<(a.length:Int))) (sf (af a i5) fun x1=>sf (af b i5) fun x2=>ab (!((x1.pos==x2.pos)&&((x1.neg==x2.neg)&&true))) (I false) (rec0 (su .i64 (i5+1)))) (I true)
def ky (k:Nat) (I:Bool->OS S) (a b:LC):Nat->Int->OS S
 |0=>fun _=> .none
 |m+1=>fun i5=>oT k I a b (ky k I a b m) i5
def BV (k:Nat) (I:Bool->OS S) (J0:Int->OS S) (a b:LC):OS S:=ab (!((a.length:Int)==(b.length:Int))) (I false) (J0 0)
def jY (k:Nat) (a b:LC) (I:Bool->OS S):OS S:=BV k I (fun i5=>ky k I a b k i5) a b
abbrev eN (S:Type):=Tm->Tm->(Bool->OS S)->OS S
def xQ (hd:eN S) (k:Nat) (I:Bool->OS S) (a b:LT) (rec0:Int->OS S) (i5:Int):OS S:=ab (decide ((i5:Int)<(a.length:Int))) (sf (af a i5) fun x1=>sf (af b i5) fun x2=>hd (ac x1) (ac x2) fun r3=>ab (!r3) (I false) (rec0 (su .i64 (i5+1)))) (I true)
def qH (hd:eN S) (k:Nat) (I:Bool->OS S) (a b:LT):Nat->Int->OS S
 |0=>fun _=> .none
 |m+1=>fun i5=>xQ hd k I a b (qH hd k I a b m) i5
def It (hd:eN S) (k:Nat) (I:Bool->OS S) (J0:Int->OS S) (a b:LT):OS S:=ab (!((a.length:Int)==(b.length:Int))) (I false) (J0 0)
def tX (hd:eN S) (k:Nat) (a b:LT) (I:Bool->OS S):OS S:=It hd k I (fun i5=>qH hd k I a b k i5) a b
def xO (hd:eN S) (k:Nat) (I:Bool->OS S) (a b:Tm) (rec0:Int->OS S) (i5:Int):OS S:=ab (decide ((i5:Int)<(a.sys.length:Int))) (sf (af a.sys i5) fun x3=>sf (af b.sys i5) fun x4=>aa k (jY k x3.face x4.face) fun r5=>ab (!r5) (I false) (sf (af a.sys i5) fun x6=>sf (af b.sys i5) fun x7=>aa k (tX hd k x6.kids x7.kids) fun r8=>ab (!r8) (I false) (rec0 (su .i64 (i5+1))))) (I true)
def av1 (hd:eN S) (k:Nat) (I:Bool->OS S) (a b:Tm):Nat->Int->OS S
 |0=>fun _=> .none
 |m+1=>fun i5=>xO hd k I a b (av1 hd k I a b m) i5
def Ir (hd:eN S) (k:Nat) (I:Bool->OS S) (J0:Int->OS S) (a b:Tm):OS S:=ab (!(a.kind==b.kind)) (I false) (ab (!(a.n==b.n)) (I false) (ab (!(a.name==b.name)) (I false) (aa k (jY k a.r b.r) fun r1=>ab (!r1) (I false) (aa k (tX hd k a.kids b.kids) fun r2=>ab (!r2) (I false) (ab (!((a.sys.length:Int)==(b.sys.length:Int))) (I false) (J0 0))))))
def d8:Nat->Tm->Tm->(Bool->OS S)->OS S
 |0=>fun _ _ _=> .none
 |k+1=>fun a b I=>Ir (d8 k) k I (fun i5=>av1 (d8 k) k I a b k i5) a b
def axQ (k:Nat) (defs:List Df) (t:Tm) (fuel more:Int) (I:Bool->OS S):OS S:=aa k (axR k) fun r1=>ab (!r1) (I false) (aa k (axP k (ac t)) fun r2=>ab (r2) (I true) (aa k (axN k defs) fun r3=>ab (r3) (I true) (ab (decide ((fuel:Int)<0)) (I true) (ab (decide ((fuel:Int)>100000)) (I true) (aa k (axM k defs) fun r4=>aa k (awt k fuel) fun r5=>aa k (auI k r4 (ac t) r5) fun r6=>aa k (awt k fuel) fun r7=>aa k (auI k r4 (ac t) (su .i64 (r7+(su .i64 (Int.tmod (su .u64 more) 10))))) fun r8=>ab (r6.2.2==220) (I true) (ab (!(r6.2.2==r8.2.2)) (I false) (d8 k (ac r6.1) (ac r8.1) fun r9=>ab (!r9) (I false) (ab (!(r6.2.2==0)) (I true) (I (r8.2.1==(su .i64 (r6.2.1+(su .i64 (Int.tmod (su .u64 more) 10))))))))))))))
abbrev aDD (S:Type):=Tm->(Int->OS S)->OS S
abbrev aAC (S:Type):=(List Df)->Tm->Int->(Tm×Int×Int->OS S)->OS S
abbrev aDE (S:Type):=(List Df)->Tm->(Bool->OS S)->OS S
end
end Go.Proofs.YtgmmefmmnakbpaaGreatDoor
namespace Go.Proofs.YtgmmefmmnakbpaaGreatDoor
open Go PI
abbrev M24:Nat:=16777215
theorem N4 {n:Nat} (h:n<24):2^n<4294967296:=Nat.lt_of_lt_of_le (Nat.pow_lt_pow_right (by decide) h) (by decide)
theorem Dt (n:Nat):(2:Int)^n=((2^n:Nat):Int):=by simp
theorem Es (m n:Nat):Int.fdiv (m:Int) ((2:Int)^n)=((m/2^n:Nat):Int):=by
 grind
variable {S:Type} {k:Nat}
theorem BM (hk:Fu k) (i:Int) (I:Bool->OS S):nd k i I=I (decide (0<=i/\i<24)):=by
 grind [nd,aY]
theorem akm (hk:Fu k) {m:Nat} (hm:m<4294967296) (I:Bool->OS S):pm k (m:Int) I=I (decide (m<16777216)):=by
 simp only [pm]
 rw [show (16777215:Int)=((16777215:Nat):Int) from rfl,C_ hm (by decide)]
 congr 1
 rw [Bool.eq_iff_iff]
 simp only [beq_iff_eq,decide_eq_true_eq]
 have key:dL m 16777215=0↔m<16777216:=by
  constructor
  ·intro h
   apply Nat.lt_pow_two_of_testBit (n:=24)
   intro i hi
   have h2:=mm m 16777215 i
   rw [h,Nat.zero_testBit] at h2
   have:(16777215:Nat).testBit i=false:=Nat.testBit_lt_two_pow (Nat.lt_of_lt_of_le (by decide:16777215<2^24) (Nat.pow_le_pow_right (by decide) hi))
   grind
  ·intro h
   apply Nat.eq_of_testBit_eq
   intro i
   rw [mm,Nat.zero_testBit]
   by_cases hi:i<24
   ·have:(16777215:Nat).testBit i=true:=by
     rw [show (16777215:Nat)=2^24-1 from rfl,Nat.testBit_two_pow_sub_one];grind
    grind
   ·have h2:(2:Nat)^24<=2^i:=Nat.pow_le_pow_right (by decide) (by omega)
    grind [Nat.testBit_lt_two_pow]
 omega
theorem akk (hk:Fu k) {m:Nat} (hm:m<4294967296) (i:Int) (I:Bool->OS S):amz k (m:Int) i I=I (decide (0<=i/\i<24)&&m.testBit i.toNat):=by
 simp only [amz,BM hk,ag hk]
 by_cases h:0<=i/\i<24
 ·obtain ⟨n,rfl⟩: ∃n:Nat,i=n:=⟨i.toNat,by omega⟩
  have hn:n<24:=by omega
  rw [decide_eq_true h,ae,Bool.true_and,iR n (by omega),fN _ (by omega)]
  congr 1
  rw [asG,Nat.min_eq_left (by omega),Es,show (1:Int)=((1:Nat):Int) from rfl,lj (Nat.lt_of_le_of_lt (Nat.div_le_self _ _) hm) (by decide)]
  grind
 grind [n3]
theorem akn (hk:Fu k) {m:Nat} (hm:m<4294967296) (i:Int) (I:Int->OS S):i_ k (m:Int) i I=I (if 0<=i/\i<24 then (((m&&&M24)|||2^i.toNat:Nat):Int) else ((m&&&M24:Nat):Int)):=by
 simp only [i_,BM hk,ag hk]
 have hand:bj .and .u32 (m:Int) 16777215=((m&&&M24:Nat):Int):=lj hm (by decide:(16777215:Nat)<4294967296)
 have hlt:m&&&M24<4294967296:=sk (n:=32) hm
 rw [hand]
 by_cases h:0<=i/\i<24
 ·obtain ⟨n,rfl⟩: ∃n:Nat,i=n:=⟨i.toNat,by omega⟩
  grind [iR,n3,fN,asG,ld,N4,wK]
 ·rw [decide_eq_false h,if_neg h];rfl
theorem ako (hk:Fu k) {m:Nat} (hm:m<4294967296) (i:Int) (I:Int->OS S):jX k (m:Int) i I=I (if 0<=i/\i<24 then ((dL (m&&&M24) (2^i.toNat):Nat):Int) else ((m&&&M24:Nat):Int)):=by
 simp only [jX,BM hk,ag hk]
 have hand:bj .and .u32 (m:Int) 16777215=((m&&&M24:Nat):Int):=lj hm (by decide:(16777215:Nat)<4294967296)
 have hlt:m&&&M24<4294967296:=sk (n:=32) hm
 rw [hand]
 by_cases h:0<=i/\i<24
 ·grind [iR,n3,fN,asG,ld,N4,C_]
 ·rw [decide_eq_false h,if_neg h];rfl
theorem R5 (hk:Fu k) (n:Nat) (hn:n<18446744073709551616) (I:Int->OS S):pn k (n:Int) I=I ((2^min n 24-1:Nat):Int):=by
 simp only [pn]
 have e:(if (24:Int)<(n:Int) then (24:Int) else (n:Int))=((min n 24:Nat):Int):=by
  omega
 rw [e,iR _ (by omega),fN _ (by omega),asG]
 congr 1
 generalize hq:min n 24=q
 have hq24:q<=24:=by omega
 rw [Nat.min_eq_left (by omega),Int.one_mul,Dt]
 have h1:2^q<=2^24:=Nat.pow_le_pow_right (by decide) hq24
 grind [iR,ld]
def gO (m n:Nat):Nat:=(m&&&M24)&&&(2^min n 24-1)
def dl (m n:Nat):Nat:=dL (m&&&M24) (2^min n 24-1)
def amc (m n b:Nat):Nat×Nat:=
 if dl m n=0 then (gO m n,0) else if 24<=b then (0,10) else if dl m n*2^b>16777215 then (0,10) else (gO m n|||(dl m n*2^b),0)
theorem akl (hk:Fu k) {m:Nat} (hm:m<4294967296) (n b:Nat) (hn:n<9223372036854775808) (hb:b<9223372036854775808) (I:Int×Int->OS S):
  lx k (m:Int) (n:Int) (b:Int) I=I (((amc m n b).1:Int),((amc m n b).2:Int)):=by
 have hand:bj .and .u32 (m:Int) 16777215=((m&&&M24:Nat):Int):=lj hm (by decide:(16777215:Nat)<4294967296)
 have hlt:m&&&M24<16777216:=Nat.lt_of_le_of_lt Nat.and_le_right (by decide)
 have hbl:2^min n 24-1<4294967296:=by
  have:2^min n 24<=2^24:=Nat.pow_le_pow_right (by decide) (by omega)
  omega
 have hhi:dl m n<16777216:=vq (n:=24) hlt
 have hlow:bj .and .u32 ((m&&&M24:Nat):Int) ((2^min n 24-1:Nat):Int)=((gO m n:Nat):Int):=lj (by omega) hbl
 have hhigh:bj .andNot .u32 ((m&&&M24:Nat):Int) ((2^min n 24-1:Nat):Int)=((dl m n:Nat):Int):=C_ (by omega) hbl
 simp only [lx]
 rw [aY,aY,if_neg (by omega),if_neg (by omega)]
 simp only [R5 hk n (by omega),ag hk,hand,hlow,hhigh]
 rw [iR _ (by omega)]
 unfold amc
 by_cases h0:dl m n=0
 ·grind [ae]
 ·rw [if_neg h0]
  have hb0:(((dl m n:Nat):Int)==0)=false:=by
   grind
  simp only [hb0,n3,aY]
  by_cases h24:24<=b
  ·grind
  ·rw [if_neg (by omega),if_neg h24,iR b (by omega),fN _ (by omega),asG,Nat.min_eq_left (by omega),Dt]
   have hp:2^b<=2^23:=Nat.pow_le_pow_right (by decide) (by omega)
   have h23:(2:Nat)^23=8388608:=by decide
   have hmul:dl m n*2^b<18446744073709551616:=by
    have:=Nat.mul_le_mul (Nat.le_of_lt hhi) hp
    omega
   have ec:((dl m n:Nat):Int)*((2^b:Nat):Int)=((dl m n*2^b:Nat):Int):=by simp
   rw [ec,iR _ hmul]
   by_cases hg:dl m n*2^b>16777215
   ·grind
   ·rw [if_neg (by omega),if_neg hg]
    rw [ld _ (by omega),fN _ (by omega),wK (by grind [gO,Nat.and_le_left]) (by omega)]
    rfl
set_option maxRecDepth 20000
variable {S:Type} {k:Nat}
def alK (l:List Nat):Nat:=(l.map (2^ ·)).sum
theorem Zr {x a:Nat} (h:x.testBit a=false):x+2^a=x|||2^a:=by
 have h1:x=2^(a+1)*(x/2^(a+1))+x%2^(a+1):=(Nat.div_add_mod _ _).symm
 have hlt:x%2^(a+1)<2^a:=by
  have hb:(x%2^(a+1)).testBit a=false:=by grind
  grind [Nat.lt_pow_two_of_testBit,Nat.testBit_lt_two_pow]
 generalize x/2^(a+1)=q at h1
 generalize x%2^(a+1)=r at h1 hlt
 have hp:(2:Nat)^(a+1)=2^a*2:=Nat.pow_succ 2 a
 have e1:2^a+r=2^a|||r:=by
  have:=Nat.two_pow_add_eq_or_of_lt hlt 1
  grind
 have e2:x=2^(a+1)*q|||r:=by grind [Nat.two_pow_add_eq_or_of_lt]
 grind [Nat.two_pow_add_eq_or_of_lt]
theorem oG: ∀ (l:List Nat),l.Nodup-> ∀j,(alK l).testBit j=decide (j∈l):=by
 intro l
 induction l with
 |nil=>grind [alK]
 |cons a l ih=>
  intro hn j
  have hn':=List.nodup_cons.1 hn
  have ha:(alK l).testBit a=false:=by grind
  have e:alK (a::l)=alK l|||2^a:=by
   grind [Zr,alK]
  grind
def bW (m:Nat):List Nat:=(ar3 24).filter m.testBit
theorem oY (m:Nat):(bW m).Nodup:=List.nodup_range.filter _
theorem mem_bitsN {m j:Nat}:j∈bW m↔j<24/\m.testBit j=true:=by simp [bW]
theorem gu (m:Nat):(bW m).length<=24:=by
 grind [bW]
theorem g8 (j:Nat):M24.testBit j=decide (j<24):=by
 rw [show M24=2^24-1 from rfl,Nat.testBit_two_pow_sub_one]
def ints (l:List Nat):List Int:=l.map Int.ofNat
theorem amb (l:List Nat):(ints l).length=l.length:=by simp [ints]
theorem uB {α:Type} (p r:List α) (x:α):af (p++x::r) (p.length:Int)=some x:=by simp [af]
theorem oZ {m:Nat} (h:m<16777216) {j:Nat} (hj:m.testBit j=true):j<24:=by
 apply Classical.byContradiction
 intro hn
 have:m<2^j:=Nat.lt_of_lt_of_le h (Nat.pow_le_pow_right (n:=2) (i:=24) (j:=j) (by decide) (by omega))
 grind [Nat.testBit_lt_two_pow]
theorem LN (m:Nat):m<16777216↔ ∀j,m.testBit j=true->j<24:=by
 constructor
 ·intro h j hj;exact oZ h hj
 ·intro h
  apply Nat.lt_pow_two_of_testBit (n:=24)
  grind
def up1 (n b x:Nat):Nat:=if x<n then x else x+b
theorem Dl (m n j:Nat):(gO m n).testBit j=(m.testBit j&&decide (j<n/\j<24)):=by
 grind [gO,g8]
theorem Js (m n j:Nat):(dl m n).testBit j=(m.testBit j&&decide (n<=j/\j<24)):=by
 grind [dl,mm,g8]
theorem Fg (m n b:Nat):amc m n b=if (∃x∈bW m,n<=x/\24<=x+b) then (0,10) else (alK ((bW m).map (up1 n b)),0):=by
 have hnd:((bW m).map (up1 n b)).Nodup:=by
  grind [up1,oY]
 have hset: ∀j,(alK ((bW m).map (up1 n b))).testBit j=((gO m n).testBit j||(decide (b<=j)&&(dl m n).testBit (j-b))):=by
  intro j
  rw [oG _ hnd,Dl,Js,Bool.eq_iff_iff]
  simp only [decide_eq_true_eq,art,mem_bitsN,Bool.or_eq_true,anZ]
  grind [up1]
 have hhigh: ∀j,(dl m n).testBit j=true↔(j∈bW m/\n<=j):=by
  grind [Js,mem_bitsN]
 unfold amc
 by_cases h0:dl m n=0
 ·rw [if_pos h0,if_neg]
  ·congr 1
   apply Nat.eq_of_testBit_eq
   grind
  grind
 ·rw [if_neg h0]
  have hex: ∃j,(dl m n).testBit j=true:=by
   apply Classical.byContradiction
   intro hne
   apply h0
   apply Nat.eq_of_testBit_eq
   grind
  have hmul: ∀j,(dl m n*2^b).testBit j=(decide (b<=j)&&(dl m n).testBit (j-b)):=by
   grind
  by_cases h24:24<=b
  ·rw [if_pos h24]
   obtain ⟨j,hj⟩:=hex
   have:=(hhigh j).1 hj
   rw [if_pos ⟨j,this.1,this.2,by omega⟩]
  ·rw [if_neg h24]
   have hlt:=LN (dl m n*2^b)
   by_cases hg:dl m n*2^b>16777215
   ·rw [if_pos hg,if_pos]
    grind
   ·rw [if_neg hg,if_neg]
    ·congr 1
     apply Nat.eq_of_testBit_eq
     grind
    ·rintro ⟨x,h1,h2,h3⟩
     have hx:(dl m n*2^b).testBit (x+b)=true:=by
      simp_all
     grind
def j7 (m:Nat) (i:Int):Nat:=if 0<=i/\i<24 then gO m i.toNat|||((m&&&M24)/2^(i.toNat+1)*2^i.toNat) else m&&&M24
theorem akj (hk:Fu k) {m:Nat} (hm:m<4294967296) (i:Int) (I:Int->OS S):pk k (m:Int) i I=I ((j7 m i:Nat):Int):=by
 simp only [pk,BM hk,ag hk]
 have hand:bj .and .u32 (m:Int) 16777215=((m&&&M24:Nat):Int):=lj hm (by decide:(16777215:Nat)<4294967296)
 have hlt:m&&&M24<16777216:=Nat.lt_of_le_of_lt Nat.and_le_right (by decide)
 rw [hand]
 unfold j7
 by_cases h:0<=i/\i<24
 ·obtain ⟨n,rfl⟩: ∃n:Nat,i=n:=⟨i.toNat,by omega⟩
  have hn:n<24:=by omega
  rw [decide_eq_true h,if_pos h,aq6,n3,R5 hk n (by omega)]
  have e1:(n:Int)+1=((n+1:Nat):Int):=by simp
  rw [alX (by omega) (by omega),e1,iR _ (by omega),iR _ (by omega),fN _ (by omega),fN _ (by omega)]
  rw [asG,asG,Nat.min_eq_left (show n+1<=32 by omega),Nat.min_eq_left (show n<=32 by omega),Es,Dt]
  have hb:2^min n 24-1<4294967296:=by
   have:2^min n 24<=2^24:=Nat.pow_le_pow_right (by decide) (by omega)
   omega
  have hq:(m&&&M24)/2^(n+1)*2^n<=m&&&M24:=by
   have h1:(m&&&M24)/2^(n+1)*2^(n+1)<=m&&&M24:=Nat.div_mul_le_self _ _
   have h2:2^n<=2^(n+1):=Nat.pow_le_pow_right (by decide) (by omega)
   exact arA (Nat.mul_le_mul_left _ h2) h1
  have ec:((((m&&&M24)/2^(n+1):Nat):Int))*((2^n:Nat):Int)=(((m&&&M24)/2^(n+1)*2^n:Nat):Int):=by simp
  rw [ec,ld _ (by omega),lj (by omega) hb]
  have hlow:gO m n<4294967296:=by grind [gO,Nat.and_le_left]
  show I (bj .or .u32 ((gO m n:Nat):Int) _)=_
  rw [wK hlow (by omega)]
 ·rw [decide_eq_false h,if_neg h];rfl
def aG (n:Int):Prop:= -9223372036854775808<=n/\n<9223372036854775808
def oC (s:Int):Bool:=decide (s<16777216)
def bP (s i:Int):Bool:=decide (0<=i/\i<24)&&s.toNat.testBit i.toNat
def e_ (s i:Int):Int:=if 0<=i/\i<24 then (((s.toNat&&&M24)|||2^i.toNat:Nat):Int) else ((s.toNat&&&M24:Nat):Int)
def alW (s i:Int):Int:=if 0<=i/\i<24 then ((dL (s.toNat&&&M24) (2^i.toNat):Nat):Int) else ((s.toNat&&&M24:Nat):Int)
def amp (s:Int):List Int:=ints (bW s.toNat)
def alS (s i b:Int):Int×Int:=if i<0\/b<0 then (0,2) else (((amc s.toNat i.toNat b.toNat).1:Int),((amc s.toNat i.toNat b.toNat).2:Int))
def pI (s i:Int):Int:=((j7 s.toNat i:Nat):Int)
theorem QE (m:Nat):oC (m:Int)=decide (m<16777216):=by
 grind [oC]
theorem Q9 (hk:Fu k) {s:Int} (h:U32 s) (I:Bool->OS S):pm k s I=I (oC s):=by
 obtain ⟨m,hm,rfl⟩:=h.nat
 rw [akm hk hm,QE]
theorem rF (hk:Fu k) {s:Int} (h:U32 s) (i:Int) (I:Bool->OS S):amz k s i I=I (bP s i):=by
 obtain ⟨m,hm,rfl⟩:=h.nat
 rw [akk hk hm];rfl
theorem vV (hk:Fu k) {s:Int} (h:U32 s) (i:Int) (I:Int->OS S):i_ k s i I=I (e_ s i):=by
 obtain ⟨m,hm,rfl⟩:=h.nat
 rw [akn hk hm];rfl
theorem vW (hk:Fu k) {s:Int} (h:U32 s) (i:Int) (I:Int->OS S):jX k s i I=I (alW s i):=by
 obtain ⟨m,hm,rfl⟩:=h.nat
 rw [ako hk hm];rfl
theorem Ny {s:Int} (h:U32 s):ra s=amp s:=by
 obtain ⟨m,hm,rfl⟩:=h.nat
 have: ∀i:Nat,(BitVec.ofInt 32 (m:Int)).getLsbD i=m.testBit i:=by
  grind
 simp_all [ra,amp,ints,bW]
theorem Q6 (hk:Fu k) {s i b:Int} (h:U32 s) (hi:aG i) (hb:aG b) (I:Int×Int->OS S):lx k s i b I=I (alS s i b):=by
 obtain ⟨m,hm,rfl⟩:=h.nat
 by_cases h1:i<0
 ·grind [lx,aY,alS]
 by_cases h2:b<0
 ·grind [lx,aY,alS]
 obtain ⟨n,rfl⟩: ∃n:Nat,i=n:=⟨i.toNat,by omega⟩
 obtain ⟨c,rfl⟩: ∃n:Nat,b=n:=⟨b.toNat,by omega⟩
 have:=hi.2;have:=hb.2
 grind [akl,alS]
theorem Q4 (hk:Fu k) {s:Int} (h:U32 s) (i:Int) (I:Int->OS S):pk k s i I=I (pI s i):=by
 obtain ⟨m,hm,rfl⟩:=h.nat
 rw [akj hk hm];rfl
theorem Dy (hk:Fu k) (I:Int->OS S):lw k 0 I=I 0:=by
 simp only [lw,ag hk];rfl
theorem Dz (hk:Fu k) (I:Int->OS S): ∀n:Nat,n<24->lw k ((2^n:Nat):Int) I=I 1:=by
 simp only [lw,ag hk]
 intro n hn
 match n,hn with
 |0,_|1,_|2,_|3,_|4,_|5,_|6,_|7,_|8,_|9,_|10,_|11,_|12,_|13,_|14,_|15,_|16,_|17,_|18,_|19,_|20,_|21,_|22,_|23,_=>rfl
 |n+24,h=>omega
theorem B7 (i:Int):e_ 0 i=if 0<=i/\i<24 then ((2^i.toNat:Nat):Int) else 0:=by
 grind [e_]
theorem ai7 (hk:Fu k) (i:Int) (I:Bool->OS S):yE k i I=I (decide (0<=i/\i<24)):=by
 simp only [yE,ag hk,vV hk (s:=0) ⟨by omega,by omega⟩,B7]
 grind [Dz,Dy]
theorem ai8 (hk:Fu k) (i:Int) (I:Bool->OS S):yK k i I=I (decide (0<=i/\i<24)):=by
 simp only [yK,ag hk,vV hk (s:=0) ⟨by omega,by omega⟩,B7]
 grind [Dz,Dy]
theorem U32.of {n:Nat} (h:n<4294967296):U32 (n:Int):=⟨by omega,by omega⟩
theorem ao2 {s i:Int}:0<=e_ s i/\e_ s i<16777216:=by
 have h1:s.toNat&&&M24<16777216:=Nat.lt_of_le_of_lt Nat.and_le_right (by decide)
 unfold e_
 split
 ·next h=>
  have hp:2^i.toNat<2^24:=Nat.pow_lt_pow_right (by decide) (by omega)
  have:=Nat.or_lt_two_pow (n:=24) h1 hp
  omega
 ·omega
theorem Jd {s i:Int}:0<=alW s i/\alW s i<16777216:=by
 have h1:s.toNat&&&M24<16777216:=Nat.lt_of_le_of_lt Nat.and_le_right (by decide)
 unfold alW
 split
 ·have:=vq (n:=24) (b:=2^i.toNat) h1
  omega
 ·omega
theorem aam (m:Nat) (i:Int):j7 m i<16777216:=by
 have h1:m&&&M24<16777216:=Nat.lt_of_le_of_lt Nat.and_le_right (by decide)
 unfold j7
 split
 ·rw [LN]
  grind [Dl,g8]
 omega
deriving instance DecidableEq for Cl
theorem Cl.ext' {a b:Cl} (h1:a.pos=b.pos) (h2:a.neg=b.neg):a=b:=by cases a<;>simp_all
theorem lm (a b:Cl):((a.pos==b.pos)&&((a.neg==b.neg)&&true))=decide (a=b):=by
 grind [Cl.ext']
def aX (c:Cl):Prop:=U32 c.pos/\U32 c.neg
def aq (f:LC):Prop:= ∀c∈f,aX c
def fE (c:Cl):Bool:=oC c.pos&&oC c.neg
def RC (c:Cl):Prop:=(0<=c.pos/\c.pos<16777216)/\(0<=c.neg/\c.neg<16777216)
theorem RC.ok {c:Cl} (h:RC c):aX c:=⟨⟨h.1.1,by have:=h.1.2;omega⟩,⟨h.2.1,by have:=h.2.2;omega⟩⟩
theorem Bp {c:Cl} (h:aX c):fE c=true↔RC c:=by
 unfold fE oC RC
 simp only [anZ,decide_eq_true_eq]
 have h1:=h.1.1;have h2:=h.2.1
 omega
def ep (a b:Int):Int:=((a.toNat|||b.toNat:Nat):Int)
theorem awS {a b:Int} (ha:U32 a) (hb:U32 b):bj .or .u32 a b=ep a b:=by
 obtain ⟨m,hm,rfl⟩:=ha.nat;obtain ⟨n,hn,rfl⟩:=hb.nat
 rw [wK hm hn];rfl
def d9 (a b:Cl):Cl:=⟨ep a.pos b.pos,ep a.neg b.neg⟩
def dR (a b:Cl):Bool:=decide (d9 a b=a)
def bS (c:Cl):Bool:= !decide (c.pos.toNat&&&c.neg.toNat=0)
theorem FX {a b:Int} (ha:U32 a) (hb:U32 b):U32 (ep a b):=by
 obtain ⟨m,hm,rfl⟩:=ha.nat;obtain ⟨n,hn,rfl⟩:=hb.nat
 exact U32.of (Nat.or_lt_two_pow (n:=32) hm hn)
theorem Aw {a b:Cl} (ha:aX a) (hb:aX b):aX (d9 a b):=⟨FX ha.1 hb.1,FX ha.2 hb.2⟩
theorem Rg (hk:Fu k) {c:Cl} (h:aX c) (I:Bool->OS S):tC k c I=I (fE c):=by
 simp only [tC,ag hk,Q9 hk h.1,Q9 hk h.2,fE,cH]
 grind
theorem G_ (hk:Fu k) {a b:Cl} (ha:aX a) (hb:aX b) (I:Cl->OS S):pb k a b I=I (d9 a b):=by
 simp only [pb,awS ha.1 hb.1,awS ha.2 hb.2];rfl
theorem ai3 (hk:Fu k) {a b:Cl} (ha:aX a) (hb:aX b) (I:Bool->OS S):yA k a b I=I (dR a b):=by
 simp only [yA,ag hk,G_ hk ha hb,lm];rfl
theorem Rf (hk:Fu k) {c:Cl} (h:aX c) (I:Bool->OS S):tB k c I=I (bS c):=by
 obtain ⟨p,n⟩:=c
 obtain ⟨m,hm,rfl⟩:=h.1.nat;obtain ⟨n,hn,rfl⟩:=h.2.nat
 simp only [tB,lj hm hn,bS,asG]
 congr 2
 grind
open Classical in
theorem aln (s:Int) (x:Nat) (hx:x<24) (j:Nat):(e_ s (x:Int)).toNat.testBit j=((s.toNat.testBit j&&decide (j<24))||decide (j=x)):=by
 unfold e_
 rw [if_pos (by omega),asG,asG,Nat.testBit_or,Nat.testBit_and,g8,Nat.testBit_two_pow,Bool.eq_iff_iff]
 grind
def dw (c:Cl) (i b:Int):Cl×Int:=
 if fE c then
  if (alS c.pos i b).2=0 then if (alS c.neg i b).2=0 then (⟨(alS c.pos i b).1,(alS c.neg i b).1⟩,0) else (⟨0,0⟩,(alS c.neg i b).2)
  else (⟨0,0⟩,(alS c.pos i b).2)
 else (⟨0,0⟩,2)
theorem ai4 (hk:Fu k) {c:Cl} {i b:Int} (h:aX c) (hi:aG i) (hb:aG b) (I:Cl×Int->OS S):yD k c i b I=I (dw c i b):=by
 simp only [yD,ag hk,Rg hk h,Q6 hk h.1 hi hb,Q6 hk h.2 hi hb,cH,dw,Bool.not_eq_true',beq_eq_false_iff_ne]
 grind
def gP (a b:Cl):Prop:=a.pos<b.pos\/(a.pos=b.pos/\a.neg<b.neg)
def qZ (a b:Cl):Bool:=decide (a.pos<b.pos)||(a.pos==b.pos&&decide (a.neg<b.neg))
theorem agh {a b:Cl}:qZ a b=true↔gP a b:=by unfold qZ gP;simp
theorem LP {a b c:Cl} (h:gP a b) (h':gP b c):gP a c:=by grind [gP]
theorem LO {a:Cl} (h:gP a a):False:=by grind [gP]
theorem agC (a b:Cl):gP a b\/a=b\/gP b a:=by
 grind [Cl.ext',gP]
abbrev lg (l:LC):Prop:=l.Pairwise gP
theorem BL: ∀ {a b:LC},lg a->lg b->(∀c,c∈a↔c∈b)->a=b:=by
 intro a
 induction a with
 |nil=>
  intro b _ _ h
  cases b with
  |nil=>rfl
  |cons y b=>exact absurd ((h y).2 (by simp)) (by simp)
 |cons x a ih=>
  intro b ha hb h
  cases b with
  |nil=>grind
  |cons y b=>
   have ha':=List.pairwise_cons.1 ha;have hb':=List.pairwise_cons.1 hb
   have hxy:x=y:=by
    rcases arR.1 ((h x).1 (by simp)) with h1|h1
    ·exact h1
    ·rcases arR.1 ((h y).2 (by simp)) with h2|h2<;>grind [LP,LO]
   grind [LO]
def fq (x:Cl):LC->LC
 |[]=>[x]
 |y::r=>if qZ y x then y::fq x r else if y=x then y::r else x::y::r
theorem NE {x c:Cl}: ∀ {l:LC},c∈fq x l↔c=x\/c∈l:=by
 intro l
 induction l<;>grind [fq]
theorem adp {x:Cl}: ∀ {l:LC},lg l->lg (fq x l):=by
 intro l
 induction l<;>grind [fq,List.pairwise_cons,NE,agh,agC,LP]
theorem K_ {x:Cl}: ∀ {l:LC},(fq x l).length<=l.length+1:=by
 intro l
 induction l<;>grind [fq]
def ce (l:LC) (c:Cl):Bool:=l.all fun d=>decide (d=c)|| !dR c d
def avb (o l:LC):LC:=l.foldl (fun o c=>fq c o) o
def asQ (l:LC):LC:=avb [] (l.filter (ce l))
theorem agJ {c:Cl}: ∀ {l o:LC},c∈avb o l↔c∈l\/c∈o:=by
 intro l
 induction l with
 |nil=>grind [avb]
 |cons x l ih=>
  intro o
  show c∈avb (fq x o) l↔_
  grind [NE]
theorem ado: ∀ {l o:LC},lg o->lg (avb o l):=by
 intro l
 induction l with
 |nil=>intro o h;exact h
 |cons x l ih=>intro o h;exact ih (adp h)
theorem adn: ∀ {l o:LC},(avb o l).length<=o.length+l.length:=by
 intro l
 induction l<;>grind [avb,K_]
theorem re (l:LC):lg (asQ l):=ado List.Pairwise.nil
theorem mem_mins {l:LC} {c:Cl}:c∈asQ l↔c∈l/\ce l c=true:=by
 grind [asQ,agJ]
theorem agM (l:LC):(asQ l).length<=l.length:=by
 grind [adn,asQ]
theorem NK {l l':LC} (h: ∀c,c∈l↔c∈l') (c:Cl):ce l c=ce l' c:=by
 grind [ce]
def bp (l:LC):LC×Int:=if l.all fE then if (asQ l).length>64 then ([],3) else (asQ l,0) else ([],2)
theorem yq {S:Type} {p:Prop} [Decidable p] (h:p) (f:Unit->OS S):sf (bR p) f=f ():=fN p h f
theorem aiS (hk:Fu k) {d c:Cl} (hd:aX d) (hc:aX c) (I:Bool->OS S):yC k d c I=I (!(decide (d=c)|| !dR c d)):=by
 grind [yC,lm,cH,ag,ai3,dR]
theorem aeZ (hk:Fu k) (I:Int->OS S) {c:Cl} (hc:aX c) {l:LC} (hl:aq l) (hlen:l.length<2147483648):
  ∀ (r p:LC) (m:Nat),l=p++r->r.length<m-> ∃v:Int,decide (v>=0)= !ce r c/\qO k I c l m (p.length:Int)=I v:=by
 intro r
 induction r with
 |nil=>
  intro p m h hm
  obtain ⟨m,rfl,hm'⟩:=amr hm
  exact ⟨-1,rfl,by grind [qO,yc,n3]⟩
 |cons x r ih=>
  intro p m h hm
  obtain ⟨m,rfl,hm'⟩:=amr hm
  obtain ⟨e1,e2,e3,e4⟩:=apy h (by omega)
  have hx:aX x:=hl x (by grind)
  obtain ⟨v,hv,hr⟩:=ih (p++[x]) m e4 hm'
  have e0:ce (x::r) c=((decide (x=c)|| !dR c x)&&ce r c):=by rfl
  grind [qO,yc,ae,ag,aiS,decide,dR,n3]
theorem ajq (hk:Fu k) {c:Cl} (hc:aX c) {l:LC} (hl:aq l) (hlen:l.length<2147483648) (I:Bool->OS S):yB k c l I=I (!ce l c):=by
 obtain ⟨v,hv,hr⟩:=aeZ hk (fun r1:Int=>I (decide (r1>=0))) hc hl hlen l [] k rfl (by omega)
 grind [yB,DT,DV,IM,ag]
theorem ae2 (hk:Fu k) (I:LC×Int->OS S) {l:LC} (hl:aq l) (hlen:l.length<2147483648):
  ∀ (r p:LC) (m:Nat) (q:LC),l=p++r->r.length<m->q.length<=p.length->
  nz k I l m (p.length:Int) q=I (if (q++r.filter (ce l)).length>64 then ([],3) else (sortCl (q++r.filter (ce l)),0)):=by
 intro r
 induction r with
 |nil=>
  grind [amr,nz,wM,aY]
 |cons x r ih=>
  intro p m q h hm hq
  obtain ⟨m,rfl,hm'⟩:=amr hm
  obtain ⟨e1,e2,e3,e4⟩:=apy h (by omega)
  have hx:aX x:=hl x (by grind)
  have hpl:p.length<l.length:=by grind
  simp only [nz,wM,e1,ae,e2,an4,ag hk,ajq hk hx hl hlen,Bool.not_not]
  rw [e3]
  cases hn:ce l x with
  |true=>
   rw [ae,J5 (by grind),List.filter_cons_of_pos hn,ih (p++[x]) m (q++[x]) e4 hm' (by grind)]
   simp
  |false=>
   rw [n3,List.filter_cons_of_neg (by grind)]
   grind
theorem zT (a b:Cl):eS VV ET.C a b=decide (a=b):=by
 have e:eS VV ET.C a b=((a.pos==b.pos)&&((a.neg==b.neg)&&true)):=by
  rfl
 rw [e,lm]
theorem agK (l:List (Cl×Bool)) (x y:Cl):dW VV ET.C (fz VV ET.C l x true) y=if x=y then some true else dW VV ET.C l y:=by
 induction l with
 |nil=>
  show (bif eS VV ET.C x y then some true else .none)=_
  simp_all [zT,dW]
 |cons a r ih=>
  obtain ⟨z,b⟩:=a
  show dW VV ET.C (bif eS VV ET.C z x then (z,true)::r else (z,b)::fz VV ET.C r x true) y=_
  rw [zT]
  by_cases h:z=x
  ·subst h
   rw [decide_eq_true rfl,cond_true]
   show (bif eS VV ET.C z y then some true else dW VV ET.C r y)=if z=y then some true else (bif eS VV ET.C z y then some b else dW VV ET.C r y)
   grind [zT]
  ·rw [decide_eq_false h,cond_false]
   show (bif eS VV ET.C z y then some b else dW VV ET.C (fz VV ET.C r x true) y)=if x=y then some true else (bif eS VV ET.C z y then some b else dW VV ET.C r y)
   grind [zT]
theorem akd {l o:LC} (hn:o.Nodup) (h: ∀c,c∈o↔c∈l):sortCl (o.filter (ce o))=asQ l/\(o.filter (ce o)).length=(asQ l).length:=by
 have hp:(sortCl (o.filter (ce o))).Perm (o.filter (ce o)):=List.mergeSort_perm _ _
 have hs:(sortCl (o.filter (ce o))).Pairwise (fun a b=>lq a b=true):=
  List.pairwise_mergeSort (le:=lq) (fun a b c h1 h2=>by
   grind [lq]) (fun a b=>by
   grind [lq]) _
 have hnd:(sortCl (o.filter (ce o))).Nodup:=hp.nodup_iff.2 (hn.filter _)
 have hsorted:lg (sortCl (o.filter (ce o))):=by
  refine (hs.and hnd).imp fun {a b} h=> ?_
  have h1:=h.1
  unfold lq at h1
  simp only [Bool.or_eq_true,anZ,decide_eq_true_eq,beq_iff_eq] at h1
  rcases h1 with h1|h1
  ·exact .inl h1
  ·refine .inr ⟨h1.1, ?_⟩
   grind [Cl.ext']
 have he:sortCl (o.filter (ce o))=asQ l:=BL hsorted (re l) fun c=>by
  grind [mem_mins,NK]
 exact ⟨he,by rw [<-he,hp.length_eq]⟩
theorem af3 (hk:Fu k) (I:LC×Int->OS S) {l:LC} (hl:aq l) (hlen:l.length<2147483648):
  ∀ (r p:LC) (m:Nat) (q:List (Cl×Bool)) (o:LC),l=p++r->r.length<m->o.length<=p.length->o.Nodup->(∀c:Cl,(dW VV ET.C q c).getD false=decide (c∈o))->(∀c,c∈o↔c∈p)->
  pZ k I l m q o (p.length:Int)=I (if r.all fE then if (asQ l).length>64 then ([],3) else (asQ l,0) else ([],2)):=by
 intro r
 induction r with
 |nil=>
  intro p m q o h hm ho hnd hq hmem
  obtain ⟨m,rfl,hm'⟩:=amr hm
  have hp:l=p:=by grind
  subst hp
  have hol:aq o:=fun c hc=>hl c ((hmem c).1 hc)
  have hk':4294967296<=k:=hk
  simp only [pZ,awk,akb h,n3,List.all_nil,if_true]
  have:=ae2 hk I hol (by omega) o [] k [] rfl (by omega) (by simp)
  grind [akd]
 |cons x r ih=>
  intro p m q o h hm ho hnd hq hmem
  obtain ⟨m,rfl,hm'⟩:=amr hm
  obtain ⟨e1,e2,e3,e4⟩:=apy h (by omega)
  have hx:aX x:=hl x (by grind)
  have hpl:p.length<l.length:=by grind
  simp only [pZ,awk,e1,ae,e2,an4,ag hk,Rg hk hx]
  rw [hq,e3]
  by_cases hr:fE x=true
  ·have:(x::r).all fE=r.all fE:=by grind
   rw [hr,aq6,n3,this]
   by_cases hxo:x∈o
   ·grind [n3]
   ·rw [decide_eq_false hxo,aqD,ae,J5 (by grind)]
    refine ih (p++[x]) m _ (o++[x]) e4 hm' (by grind) (List.nodup_append.2 ⟨hnd,by simp,fun a ha b hb=>by grind⟩) (fun c=> ?_) fun c=> ?_
    all_goals grind [agK]
  grind [ae]
theorem kX (hk:Fu k) {l:LC} (hl:aq l) (hlen:l.length<2147483648) (I:LC×Int->OS S):gy k l I=I (bp l):=by
 simp only [gy,Hw]
 exact af3 hk I hl hlen l [] k [] [] rfl (by omega) (by simp) List.nodup_nil (fun c=>by rfl) (fun c=>Iff.rfl)
theorem aeg (hk:Fu k) (I:Bool->OS S) {a b:LC} (hlen:a.length<4294967296):
  ∀ (r s p q:LC) (m:Nat),a=p++r->b=q++s->p.length=q.length->r.length=s.length->r.length<m->qN k I a b m (p.length:Int)=I (decide (r=s)):=by
 intro r
 induction r with
 |nil=>
  grind [amr,qN,yb,n3]
 |cons x r ih=>
  intro s p q m h h' hpq hrs hm
  obtain ⟨m,rfl,hm'⟩:=amr hm
  cases s with
  |nil=>cases hrs
  |cons y s=>
   obtain ⟨e1,e2,e3,e4⟩:=apy h (by omega)
   have e2':af b (p.length:Int)=some y:=by grind [uB]
   simp only [qN,yb,e1,ae,e2,e2',an4,lm,e3]
   rw [ih s (p++[x]) (q++[y]) m e4 (by grind) (by simp_all) (by grind) hm']
   by_cases hxy:x=y<;>simp_all [n3,ae]
theorem aiN (hk:Fu k) {a b:LC} (hlen:a.length<4294967296) (I:Bool->OS S):zz k a b I=I (decide (a=b)):=by
 simp only [zz,IL]
 by_cases h:a.length=b.length
 ·have e:((a.length:Int)==(b.length:Int))=true:=by simp [h]
  rw [e,aq6,n3]
  exact aeg hk I hlen a b [] [] k rfl rfl rfl h (by omega)
 ·have e:((a.length:Int)==(b.length:Int))=false:=by grind
  rw [e,aqD,ae,decide_eq_false]
  grind
theorem LF (l:LC):(bp l).1.length<=64:=by
 grind [bp]
def ary (f:LC):Bool:=decide (bp f=(f,0))
theorem rH (hk:Fu k) {f:LC} (hf:aq f) (hlen:f.length<2147483648) (I:Bool->OS S):hY k f I=I (ary f):=by
 have:=LF f
 simp only [hY,ag hk,kX hk hf hlen,aiN hk (show (bp f).1.length<4294967296 by omega),cH,ary,beq_iff_eq]
 by_cases h:(bp f).2=0
 all_goals simp_all [Prod.ext_iff]
def RF (f:LC):Prop:=bp f=(f,0)/\aq f
theorem atQ {f:LC} (h:aq f):ary f=true↔RF f:=by grind [ary,RF]
theorem RF.right {f:LC} (h:RF f):ary f=true:=by unfold ary;simp [h.1]
theorem As {l o:LC} (h:bp l=(o,0)):o=asQ l/\l.all fE=true/\o.length<=64:=by
 grind [bp]
theorem RF.len {f:LC} (h:RF f):f.length<=64:=(As h.1).2.2
theorem RF.rc {f:LC} (h:RF f) {c:Cl} (hc:c∈f):RC c:=(Bp (h.2 c hc)).1 (ars.1 (As h.1).2.1 c hc)
theorem agN (l:LC):asQ (asQ l)=asQ l:=BL (re _) (re _) fun c=>by
 grind [mem_mins,ce]
theorem qX {l:LC} (hl:aq l) (h:(bp l).2=0):RF (bp l).1:=by
 have h':bp l=((bp l).1,0):=Prod.ext rfl h
 obtain ⟨h1,h2,h3⟩:=As h'
 have hok:aq (bp l).1:=fun c hc=>hl c ((mem_mins.1 (h1▸hc)).1)
 refine ⟨?_,hok⟩
 grind [bp,mem_mins,agN]
theorem agf {l:LC} (h:(bp l).2≠0):(bp l).1=[]:=by
 grind [bp]
theorem rA:RF []:=⟨rfl,fun c hc=>by cases hc⟩
theorem gS {c:Cl} (h:RC c):RF [c]:=by
 have hok:aq [c]:=fun d hd=>by simp at hd;subst hd;exact h.ok
 refine ⟨?_,hok⟩
 have hm:asQ [c]=[c]:=BL (re _) (by simp) fun d=>by
  grind [mem_mins,ce]
 unfold bp
 rw [hm,if_pos (by simp [(Bp h.ok).2 h]),if_neg (by simp)]
theorem oA:RC ⟨0,0⟩:=⟨⟨by decide,by decide⟩,by decide,by decide⟩
theorem ami {f g:LC} (hf:aq f) (hg:aq g):aq (f++g):=fun c hc=>by
 rcases arH.1 hc with h|h
 ·exact hf c h
 ·exact hg c h
theorem afJ (hk:Fu k) (I:Int->OS S) {l:List (LC)} (hl: ∀f∈l,aq f/\f.length<2147483648) (hlen:l.length<4294967296):
  ∀ (r p:List (LC)) (m:Nat),l=p++r->r.length<m->qi k I l m (p.length:Int)=I (if r.all ary then 0 else 2):=by
 intro r
 induction r with
 |nil=>
  grind [amr,qi,w9,n3]
 |cons x r ih=>
  intro p m h hm
  obtain ⟨m,rfl,hm'⟩:=amr hm
  obtain ⟨e1,e2,e3,e4⟩:=apy h (by omega)
  have hx:=hl x (by grind)
  grind [qi,w9,ae,ag,rH,n3]
theorem Hc (hk:Fu k) {l:List (LC)} (hl: ∀f∈l,aq f/\f.length<2147483648) (hlen:l.length<4294967296) (I:Int->OS S):pi k l I=I (if l.all ary then 0 else 2):=by
 simp only [pi,HT]
 exact afJ hk I hl hlen l [] k rfl (by omega)
def alO (f g:LC):LC×Int:=bp (f++g)
def meets (f g:LC):LC:=f.flatMap fun a=>g.map (d9 a)
def alV (f g:LC):LC×Int:=bp (meets f g)
theorem ND {f g:LC} (hf:aq f) (hg:aq g):aq (meets f g):=fun c hc=>by
 obtain ⟨a,ha,hc⟩:=List.mem_flatMap.1 hc
 obtain ⟨b,hb,rfl⟩:=art.1 hc
 exact Aw (hf a ha) (hg b hb)
theorem kS {f g:LC} (hf:aq f) (hg:aq g) (h:(alV f g).2=0):RF (alV f g).1:=qX (ND hf hg) h
theorem Lc {f g:LC} (hf:aq f) (hg:aq g) (h:(alO f g).2=0):RF (alO f g).1:=qX (ami hf hg) h
theorem Bz (hk:Fu k) {f g:LC} (hf:aq f) (hg:aq g) (h1:f.length<1073741824) (h2:g.length<1073741824) (I:LC×Int->OS S):na k f g I=I (alO f g):=by
 simp only [na,ag hk,arU]
 rw [J5 (by grind),J5 (by omega),kX hk (ami hf hg) (by grind)]
 rfl
theorem afa (hk:Fu k) (I:LC×Int->OS S) (rec0:Int->LC->OS S) {x:Cl} (hx:aX x) {g f:LC} {v:Int} (hg:aq g) (hlen:g.length<65536):
  ∀ (r p:LC) (m:Nat) (o:LC),g=p++r->r.length<m->o.length+r.length<1099511627776->nA k I rec0 x g f v m (p.length:Int) o=rec0 (su .i64 (v+1)) (o++r.map (d9 x)):=by
 intro r
 induction r with
 |nil=>
  intro p m o h hm ho
  obtain ⟨m,rfl,hm'⟩:=amr hm
  grind [nA,w7,n3]
 |cons y r ih=>
  intro p m o h hm ho
  obtain ⟨m,rfl,hm'⟩:=amr hm
  obtain ⟨e1,e2,e3,e4⟩:=apy h (by omega)
  have hy:aX y:=hg y (by grind)
  simp only [aq5] at ho
  simp only [nA,w7,e1,ae,e2,an4,ag hk,G_ hk hx hy,e3]
  grind [J5]
theorem ae_ (hk:Fu k) (I:LC×Int->OS S) {g f:LC} (hf:aq f) (hg:aq g) (hlf:f.length<32768) (hlg:g.length<32768):
  ∀ (r p:LC) (m:Nat) (o:LC),f=p++r->r.length<m->aq o->o.length+r.length*g.length<1073741825->lZ k I g f m (p.length:Int) o=I (bp (o++meets r g)):=by
 intro r
 induction r with
 |nil=>
  grind [amr,lZ,an_,n3,ag,kX,meets]
 |cons x r ih=>
  intro p m o h hm hok ho
  obtain ⟨m,rfl,hm'⟩:=amr hm
  obtain ⟨e1,e2,e3,e4⟩:=apy h (by omega)
  have hx:aX x:=hf x (by grind)
  have hmul:(x::r).length*g.length=r.length*g.length+g.length:=by grind
  rw [hmul] at ho
  have hk':4294967296<=k:=hk
  simp only [lZ,an_,e1,ae,e2,an4]
  have:=afa hk I (lZ k I g f m) (f:=f) (v:=(p.length:Int)) hx hg (by omega) g [] k o rfl (by omega) (by omega)
  simp only [List.length_nil] at this
  rw [show (0:Int)=((0:Nat):Int) from rfl,this,e3,ih (p++[x]) m _ e4 hm' (ami hok fun c hc=>by
   obtain ⟨b,hb,rfl⟩:=art.1 hc
   exact Aw hx (hg b hb)) (by grind)]
  simp [meets]
theorem vY (hk:Fu k) {f g:LC} (hf:aq f) (hg:aq g) (h1:f.length<32768) (h2:g.length<32768) (I:LC×Int->OS S):jW k f g I=I (alV f g):=by
 simp only [jW,HR]
 have hb:f.length*g.length<1073741824:=Nat.lt_of_le_of_lt (Nat.mul_le_mul (Nat.le_of_lt_succ h1) (Nat.le_of_lt_succ h2)) (by decide)
 have:=ae_ hk I hf hg h1 h2 f [] k [] rfl (by omega) (fun c hc=>by cases hc) (by grind)
 grind [alV]
theorem RF.lt {f:LC} (h:RF f):f.length<2147483648:=by have:=h.len;omega
theorem u0:U32 0:=⟨by decide,by decide⟩
def nl (i:Int):Cl:=⟨0,e_ 0 i⟩
def pl (i:Int):Cl:=⟨e_ 0 i,0⟩
theorem FR (i:Int):RC (nl i):=⟨⟨by show (0:Int)<=0;decide,by show (0:Int)<16777216;decide⟩,ao2⟩
theorem F1 (i:Int):RC (pl i):=⟨ao2,⟨by show (0:Int)<=0;decide,by show (0:Int)<16777216;decide⟩⟩
def jI (c:Cl):LC:=(amp c.pos).map nl++(amp c.neg).map pl
def oj (c:Cl):LC×Int:=bp (jI c)
theorem Fi (s:Int):(amp s).length<=24:=by grind [amp,amb,gu]
theorem NV {c d:Cl} (h:d∈jI c):RC d:=by
 rcases arH.1 h with h|h<;>grind [FR,F1]
theorem ahw (c:Cl):(jI c).length<=48:=by
 grind [Fi,jI]
theorem LH {l:LC} (h: ∀c∈l,RC c) (hl:l.length<=64):(bp l).2=0:=by
 have:=agM l
 unfold bp
 rw [if_pos (ars.2 fun c hc=>(Bp (h c hc).ok).2 (h c hc)),if_neg (by omega)]
theorem NW (c:Cl):(oj c).2=0:=LH (fun d hd=>NV hd) (by have:=ahw c;omega)
theorem AC (c:Cl):RF (oj c).1:=qX (fun d hd=>(NV hd).ok) (NW c)
theorem afe (hk:Fu k) (I:LC×Int->OS S) {l:List Int} (hlen:l.length<=64):
  ∀ (r p:List Int) (m:Nat) (o:LC),l=p++r->r.length<m->aq o->o.length+r.length<1073741824->avc k I l m (p.length:Int) o=I (bp (o++r.map pl)):=by
 intro r
 induction r with
 |nil=>
  grind [amr,avc,w8,n3,ag,kX]
 |cons x r ih=>
  intro p m o h hm hok ho
  obtain ⟨m,rfl,hm'⟩:=amr hm
  obtain ⟨e1,e2,e3,e4⟩:=apy h (by omega)
  simp only [aq5] at ho
  simp only [avc,w8,e1,ae,e2,an4,ag hk,vV hk u0,e3]
  rw [J5 (by grind),ih (p++[x]) m _ e4 hm' (ami hok fun c hc=>by simp at hc;subst hc;exact (F1 x).ok) (by grind)]
  simp [pl]
theorem afd (hk:Fu k) (I:LC×Int->OS S) {c:Cl} (hc:aX c) {l:List Int} (hlen:l.length<=64):
  ∀ (r p:List Int) (m:Nat) (o:LC),l=p++r->r.length<m->aq o->o.length+r.length<1000000->qh k I c l m (p.length:Int) o=I (bp (o++r.map nl++(amp c.neg).map pl)):=by
 intro r
 induction r with
 |nil=>
  intro p m o h hm hok ho
  obtain ⟨m,rfl,hm'⟩:=amr hm
  simp only [List.length_nil] at ho
  have hl:=Fi c.neg
  have hk':4294967296<=k:=hk
  simp only [qh,aoa,akb h,n3,vz,Ny hc.2,List.map_nil,arE]
  grind [afe]
 |cons x r ih=>
  intro p m o h hm hok ho
  obtain ⟨m,rfl,hm'⟩:=amr hm
  obtain ⟨e1,e2,e3,e4⟩:=apy h (by omega)
  simp only [aq5] at ho
  simp only [qh,aoa,e1,ae,e2,an4,ag hk,vV hk u0,e3]
  rw [J5 (by grind),ih (p++[x]) m _ e4 hm' (ami hok fun c hc=>by simp at hc;subst hc;exact (FR x).ok) (by grind)]
  simp [nl]
theorem ajs (hk:Fu k) {c:Cl} (hc:aX c) (I:LC×Int->OS S):yV k c I=I (oj c):=by
 have hl:=Fi c.pos
 simp only [yV,HS,vz,Ny hc.1]
 have:=afd hk I hc (l:=amp c.pos) (by omega) (amp c.pos) [] k [] rfl (by omega) (fun c hc=>by cases hc) (by grind)
 grind [oj,jI]
def adU (step:LC->Cl->LC×Int):LC->LC->LC×Int
 |h,[]=>(h,0)
 |h,c::r=>if (step h c).2=0 then adU step (step h c).1 r else ([],(step h c).2)
def mn (h:LC) (c:Cl):LC×Int:=alV h (oj c).1
def alU (f:LC):LC×Int:=adU mn [⟨0,0⟩] f
theorem KG {step:LC->Cl->LC×Int} (hs: ∀h c,RF h->(step h c).2=0->RF (step h c).1): ∀ {r h:LC},RF h->(adU step h r).2=0->RF (adU step h r).1:=by
 intro r
 induction r<;>grind [adU]
theorem FS (h:LC) (c:Cl) (hh:RF h) (h0:(mn h c).2=0):RF (mn h c).1:=kS hh.2 (AC c).2 h0
theorem ju {f:LC} (h:(alU f).2=0):RF (alU f).1:=KG FS (gS oA) h
theorem bG (n:Int):(n==0)=decide (n=0):=by rfl
theorem ajr (hk:Fu k) {h:LC} {c:Cl} (hh:RF h) (hc:aX c) (I:LC×Int->OS S):yU k h c I=I (mn h c):=by
 have:=hh.len;have:=(AC c).len
 simp only [yU,ag hk,ajs hk hc,NW,vY hk hh.2 (AC c).2 (show h.length<32768 by omega) (show (oj c).1.length<32768 by omega)]
 rfl
theorem aeS (hk:Fu k) (I:LC×Int->OS S) {l:LC} (hl:aq l) (hlen:l.length<2147483648):
  ∀ (r p:LC) (m:Nat) (h:LC),l=p++r->r.length<m->RF h->qe k I l m h (p.length:Int)=I (adU mn h r):=by
 intro r
 induction r with
 |nil=>
  intro p m h e hm hh
  obtain ⟨m,rfl,hm'⟩:=amr hm
  simp only [qe,w5,akb e,n3];rfl
 |cons x r ih=>
  intro p m h e hm hh
  obtain ⟨m,rfl,hm'⟩:=amr hm
  obtain ⟨e1,e2,e3,e4⟩:=apy e (by omega)
  have hx:aX x:=hl x (by grind)
  simp only [qe,w5,e1,ae,e2,an4,ag hk,ajr hk hh hx,bG,e3]
  grind [n3,FS,adU,ae]
theorem Rq (hk:Fu k) {f:LC} (hf:aq f) (hlen:f.length<2147483648) (I:LC×Int->OS S):ph k f I=I (alU f):=by
 simp only [ph,ag hk,au3,DP,HP]
 exact aeS hk I hf hlen f [] k _ rfl (by omega) (gS oA)
theorem aja (hk:Fu k) {f:LC} (hf:aq f) (hlen:f.length<2147483648) (I:LC×Int->OS S):yQ k f I=I (if ary f then alU f else ([],2)):=by
 simp only [yQ,ag hk,Hc hk (l:=[f]) (by grind) (by simp),Rq hk hf hlen]
 have:[f].all ary=ary f:=by simp
 rw [this]
 by_cases h:ary f=true
 ·rw [if_pos h,if_pos h];rfl
 ·rw [if_neg h,if_neg h];rfl
def gap (i:Int) (c:Cl):Cl:=⟨alW c.pos i,alW c.neg i⟩
theorem kg (i:Int) (c:Cl):RC (gap i c):=⟨Jd,Jd⟩
def d_ (i:Int) (r:LC) (c:Cl):LC×Int:=if bP c.pos i then alV [gap i c] r else ([gap i c],0)
def amk (i:Int) (r:LC) (c:Cl) (g:LC):LC×Int:=if bP c.neg i then if (alU r).2=0 then alV g (alU r).1 else ([],(alU r).2) else (g,0)
def dY (i:Int) (r h:LC) (c:Cl):LC×Int:=
 if (d_ i r c).2=0 then if (amk i r c (d_ i r c).1).2=0 then alO h (amk i r c (d_ i r c).1).1 else ([],(amk i r c (d_ i r c).1).2) else ([],(d_ i r c).2)
def lL (i:Int):Bool:=decide (0<=i/\i<24)
def iH (f:LC) (i:Int) (r:LC):LC×Int:=if ary f&&ary r&&lL i then adU (dY i r) [] f else ([],2)
theorem ahI {i:Int} {r:LC} {c:Cl} (hr:RF r) (h:(d_ i r c).2=0):RF (d_ i r c).1:=by
 unfold d_ at h ⊢
 split
 ·next hh=>rw [if_pos hh] at h;exact kS (gS (kg i c)).2 hr.2 h
 simp_all [gS,kg]
theorem ahK {i:Int} {r g:LC} {c:Cl} (hg:RF g) (h:(amk i r c g).2=0):RF (amk i r c g).1:=by
 unfold amk at h ⊢
 split
 ·next hh=>
  rw [if_pos hh] at h
  split
  ·next hn=>rw [if_pos hn] at h;exact kS hg.2 (ju hn).2 h
  grind
 omega
theorem N5 {i:Int} {r:LC} (hr:RF r) (h:LC) (c:Cl) (hh:RF h) (h0:(dY i r h c).2=0):RF (dY i r h c).1:=by
 unfold dY at h0 ⊢
 split
 ·next ha=>
  rw [if_pos ha] at h0
  have hA:=ahI hr ha
  split
  ·next hb=>rw [if_pos hb] at h0;exact Lc hh.2 (ahK hA hb).2 h0
  grind
 grind
theorem aiU (hk:Fu k) {i:Int} {r h:LC} {c:Cl} (hr:RF r) (hh:RF h) (hc:aX c) (I:LC×Int->OS S):yS k h c i r I=I (dY i r h c):=by
 have l1:=hr.len;have l2:=hh.len
 have hg:=gS (kg i c)
 simp only [yS,ag hk,vW hk hc.1,vW hk hc.2,rF hk hc.1,rF hk hc.2,vY hk hg.2 hr.2 (show [gap i c].length<32768 by simp) (show r.length<32768 by omega),Rq hk hr.2 hr.lt,bG,cH,decide_eq_true_eq,Bool.not_eq_true',decide_eq_false_iff_not]
 have e: ∀ (f:LC×Int->OS S),jW k [Cl.mk (alW c.pos i) (alW c.neg i)] r f=f (alV [gap i c] r):=fun f=>vY hk hg.2 hr.2 (by simp) (by omega) f
 simp only [e]
 unfold dY d_ amk
 by_cases hp:bP c.pos i=true
 ·simp only [hp,if_true]
  by_cases h1:(alV [gap i c] r).2=0
  ·have hA:RF (alV [gap i c] r).1:=kS hg.2 hr.2 h1
   have l3:=hA.len
   simp only [h1,not_true,if_false,if_true]
   by_cases hn:bP c.neg i=true
   ·simp only [hn,if_true]
    by_cases h2:(alU r).2=0
    ·have hN:=ju h2
     have l4:=hN.len
     simp only [h2,not_true,if_false,if_true]
     rw [vY hk hA.2 hN.2 (by omega) (by omega)]
     by_cases h3:(alV (alV [gap i c] r).1 (alU r).1).2=0
     ·have hB:=kS hA.2 hN.2 h3
      have l5:=hB.len
      simp only [h3,not_true,if_false,if_true]
      rw [Bz hk hh.2 hB.2 (by omega) (by omega)]
     grind
    grind
   ·simp only [hn,Bool.false_eq_true,if_false,if_true]
    rw [Bz hk hh.2 hA.2 (by omega) (by omega)]
  grind
 ·simp only [hp,Bool.false_eq_true,if_false,if_true]
  by_cases hn:bP c.neg i=true
  ·simp only [hn,if_true]
   by_cases h2:(alU r).2=0
   ·have hN:=ju h2
    have l4:=hN.len
    simp only [h2,not_true,if_false,if_true]
    have e2: ∀ (f:LC×Int->OS S),jW k [Cl.mk (alW c.pos i) (alW c.neg i)] (alU r).1 f=f (alV [gap i c] (alU r).1):=fun f=>vY hk hg.2 hN.2 (by simp) (by omega) f
    rw [e2]
    by_cases h3:(alV [gap i c] (alU r).1).2=0
    ·have hB:=kS hg.2 hN.2 h3
     have l5:=hB.len
     simp only [h3,not_true,if_false,if_true]
     rw [Bz hk hh.2 hB.2 (by omega) (by omega)]
    grind
   grind
  ·simp only [hn,Bool.false_eq_true,if_false,if_true]
   have:=Bz hk hh.2 hg.2 (by omega) (by simp) I
   exact this
theorem aeT (hk:Fu k) (I:LC×Int->OS S) {i:Int} {q:LC} (hq:RF q) {l:LC} (hl:aq l) (hlen:l.length<2147483648):
  ∀ (r p:LC) (m:Nat) (h:LC),l=p++r->r.length<m->RF h->qc k I i q l m h (p.length:Int)=I (adU (dY i q) h r):=by
 intro r
 induction r with
 |nil=>
  intro p m h e hm hh
  obtain ⟨m,rfl,hm'⟩:=amr hm
  simp only [qc,wZ,akb e,n3];rfl
 |cons x r ih=>
  intro p m h e hm hh
  obtain ⟨m,rfl,hm'⟩:=amr hm
  obtain ⟨e1,e2,e3,e4⟩:=apy e (by omega)
  have hx:aX x:=hl x (by grind)
  simp only [qc,wZ,e1,ae,e2,an4,ag hk,aiU hk hq hh hx,bG,e3]
  grind [n3,N5,adU,ae]
theorem aiL (hk:Fu k) (i:Int) (I:LC×Int->OS S):yP k i I=I (if lL i then ([⟨e_ 0 i,0⟩],0) else ([],2)):=by
 simp only [yP,ag hk,vV hk u0]
 grind [lL,B7,Dz,n3,Dy,ae]
theorem ajb (hk:Fu k) {f r:LC} {i:Int} (hf:aq f) (hr:aq r) (h1:f.length<2147483648) (h2:r.length<2147483648) (I:LC×Int->OS S):yR k f i r I=I (iH f i r):=by
 simp only [yR,ag hk,Hc hk (l:=[f,r]) (by grind) (by simp),aiL hk]
 have e:[f,r].all ary=(ary f&&ary r):=by simp
 unfold iH
 by_cases ha:(ary f&&ary r)=true
 ·rw [e,if_pos ha,ha,Bool.true_and]
  rw [show ((0:Int)==0)=true from rfl,aq6,n3]
  cases hd:lL i with
  |true=>
   rw [if_pos rfl,if_pos rfl]
   rw [show ((0:Int)==0)=true from rfl,aq6,n3]
   simp only [tK,DO,HO]
   have hr':=(atQ hr).1 (by grind)
   exact aeT hk I hr' hf h1 f [] k [] rfl (by omega) rA
  |false=>
   rfl
 simp_all [if_neg,ae]
theorem agr {m n b:Nat}:(amc m n b).1<16777216:=by
 have h1:m&&&M24<16777216:=Nat.lt_of_le_of_lt Nat.and_le_right (by decide)
 have h2:gO m n<=m&&&M24:=Nat.and_le_left
 unfold amc
 split
 ·omega
 ·split
  ·simp
  ·split
   ·simp
   ·exact Nat.or_lt_two_pow (n:=24) (by omega) (by omega)
theorem LK (s i b:Int):0<=(alS s i b).1/\(alS s i b).1<16777216:=by
 grind [alS,agr]
theorem LJ (c:Cl) (i b:Int):RC (dw c i b).1:=by
 unfold dw
 split
 ·split
  ·split
   ·exact ⟨LK _ _ _,LK _ _ _⟩
   ·exact oA
  ·exact oA
 ·exact oA
def dK (i b:Int) (h:LC) (c:Cl):LC×Int:=(h++[(dw c i b).1],(dw c i b).2)
def agS (f:LC) (i b:Int):LC×Int:=if ary f then if (adU (dK i b) [] f).2=0 then bp (adU (dK i b) [] f).1 else ([],(adU (dK i b) [] f).2) else ([],2)
theorem KH {i b:Int}: ∀ {r h:LC},aq h->aq (adU (dK i b) h r).1/\(adU (dK i b) h r).1.length<=h.length+r.length:=by
 intro r
 induction r with
 |nil=>intro h hh;exact ⟨hh,by show h.length<=_;omega⟩
 |cons c r ih=>
  intro h hh
  unfold adU
  split
  ·have:=ih (h:=(dK i b h c).1) (ami hh fun d hd=>by simp at hd;subst hd;exact (LJ c i b).ok)
   grind [dK]
  ·exact ⟨fun d hd=>(by cases hd),by simp⟩
theorem aeR (hk:Fu k) (I:LC×Int->OS S) {i b:Int} (hi:aG i) (hb:aG b) {l:LC} (hl:aq l) (hlen:l.length<2147483648):
  ∀ (r p:LC) (m:Nat) (h:LC),l=p++r->r.length<m->h.length+r.length<4294967296->qf k I i b l m h (p.length:Int)=I (adU (dK i b) h r):=by
 intro r
 induction r with
 |nil=>
  intro p m h e hm hh
  obtain ⟨m,rfl,hm'⟩:=amr hm
  simp only [qf,w6,akb e,n3];rfl
 |cons x r ih=>
  intro p m h e hm hh
  obtain ⟨m,rfl,hm'⟩:=amr hm
  obtain ⟨e1,e2,e3,e4⟩:=apy e (by omega)
  have hx:aX x:=hl x (by grind)
  simp only [aq5] at hh
  simp only [qf,w6,e1,ae,e2,an4,ag hk,DN,ai4 hk hx hi hb,bG,e3]
  grind [J5,n3,adU,dK,ae]
theorem vX (hk:Fu k) {f:LC} {i b:Int} (hf:aq f) (hlen:f.length<1073741824) (hi:aG i) (hb:aG b) (I:LC×Int->OS S):jV k f i b I=I (agS f i b):=by
 have hlo:=KH (i:=i) (b:=b) (r:=f) (h:=[]) (fun d hd=>by cases hd)
 simp only [List.length_nil] at hlo
 have hfold: ∀ (g:LC×Int->OS S),yT k f [] i b g=g (adU (dK i b) [] f):=fun g=>by
  simp only [yT,HQ]
  exact aeR hk g hi hb hf (by omega) f [] k [] rfl (by omega) (by grind)
 simp only [jV,ag hk,Hc hk (l:=[f]) (by grind) (by simp),tK,hfold,kX hk hlo.1 (show _<2147483648 by omega)]
 grind [agS,n3,decide_eq_false,ae]
theorem kQ {f:LC} {i b:Int} (h:(agS f i b).2=0):RF (agS f i b).1:=by
 unfold agS at h ⊢
 split
 ·next hr=>
  rw [if_pos hr] at h
  split
  ·next h0=>
   rw [if_pos h0] at h
   exact qX (KH fun d hd=>by cases hd).1 h
  grind
 grind
theorem apW {f:LC} {i b:Int} (h:(agS f i b).2≠0):(agS f i b).1=[]:=by
 grind [agS,agf]
end Go.Proofs.YtgmmefmmnakbpaaGreatDoor
