/- Part 2 of a proof: the sources, with their names and remarks, lie in wip/. -/
import Derived.Test.YtgmmefmmnakbpaaGreatDoorX1
import Derived.Recover
import Derived.Orders
import Derived.Test.YtgmmefmmnakbpaaGreatDoorProg
import Derived.KernelRfl
open Bool renaming and_eq_true→anZ,not_false→aqD,not_true→aq6
open ByteArray renaming empty→alH
open Go.IntKind renaming wrap→su
open Int renaming toNat→arM,toNat_natCast→asG
open List renaming all_eq_true→ars,length_cons→aq5,mem_append→atc,mem_cons→arH,mem_map→arR,mem_of_getElem?→art,nil_append→as2,range→arU
open Nat renaming beq→ar3,le_trans→aru
open Option renaming bind→asP,bind_some→sf
set_option linter.unusedVariables false
set_option linter.unusedSimpArgs false
namespace Go.Proofs.YtgmmefmmnakbpaaGreatDoor.PI
open Go
section
variable {U:Uni} {V:Env U} {P:Program} {X:Link V P}
inductive RcvOK:PV U->FrameMode->FrameMode->Prop
 |nil:RcvOK .nilIface .returning .returning
 |err (t:TypeId) (k:IntKind) (n:Int):RcvOK (.iface t (.int k n)) (.panicking [{v:= .iface t (.int k n),recovered:=false}]) (.panicking [{v:= .iface t (.int k n),recovered:=true}])
def jM (P:Program) (u h:FrameMode):FuncId->Array Value->World->(Ending->World->Prop)->Prop:=fun f vs w R=>CallsD P f vs u w fun e j w'=>j=h/\R e w'
theorem alr {ops:Array Oper} {cs:List Frame} {Q:Exit->Act->List Frame->World->Prop} (q: ¬LetsOut (fun e a' w'=>Q e a' cs w')): ∀ (l:List Nat) (a:Act) (w:World),wpOps P ops (fun e a' w'=>Q e a' cs w') l a w->wpOpsS P ops Q l a cs w:=by
 intro l
 induction l with
 |nil=>intro a w h;exact h
 |cons i l x=>
  intro a w h
  simp only [wpOps,wpOpsS] at h ⊢
  cases ho:ops[i]? with
  |none=>grind
  |some o=>
   rw [ho] at h
   simp only at h ⊢
   split
   ·rename_i z
    rw [if_pos z] at h
    have h:=h.resolve_right fun h=>q h.2
    have h:=Oper.wp_mono x h
    unfold Oper.wp at h
    split
    ·rename_i w' j
     rw [j] at h
     exact h.elim
    simp_all
   grind
theorem aiz (hm:P.follows .mixedOrders=true) (hI:lf X) {S:Side U} (hS:S.rcv=none) (c9:S.pin=fun _=>false) {R:Type} {C:Oracle U R} (hC:C.Tells (ci X)) {f:FuncId} {fn:Func} (hf:P.funcs[f]? =some fn)
  (O:(fn.name== "runtime.NumGoroutine")=false) (T:fn.body.isNone=false) (bt:fn.ntmps=S.nt) (E:S.nt<=1000000) {v:PV U} {u F:FrameMode} (hv:RcvOK v u F) {args:List (PV U)} {boxes:List (Box U)} (W:args.length<=S.nt)
  {ann:Nat->Option Ann} {fuel:Nat} {keep:Bool} {hand:List Bool} {κ:Out U->Option R} {x:R} (h:G5 V S C ann fuel keep hand fn v args boxes κ=some x): ∃out,κ out=some x/\jS X (jM P u F) f args boxes out:=by
 obtain ⟨code,I⟩: ∃code,fn.body=some code:=by
  cases hb:fn.body<;>grind
 unfold G5 atJ at h
 rw [I] at h
 simp only at h
 unfold QL at h
 split at h
 case h_2=>cases h
 rename_i id ops draw b
 split at h
 case h_2=>cases h
 rename_i o more M
 split at h
 case h_2=>cases h
 rename_i d z
 cases hc:(!draw&&(Nat.blt d S.nt&&more.all (bq S.nt))) with
 |false=>grind
 |true=>
 rw [hc] at h
 simp only [cond_true] at h
 simp only [anZ,Bool.not_eq_true'] at hc
 obtain ⟨Y,hd,dd⟩:=hc
 subst Y
 have hd:d<S.nt:=by simp_all
 unfold Qq at z
 obtain ⟨dst,op,ty,pos,after,gd⟩:=o
 simp only at z
 split at z
 case h_2=>simp_all
 rename_i d0 cl
 split at z
 case h_2=>simp_all
 rename_i dh
 injection z with z
 subst z
 obtain ⟨e1,fps,ad,ao,ax,bz,J⟩:=QK (ci X) V S hC ops.toList more h (St.eqv.refl _)
 cases e1 with
 |exit id=>cases J
 |ret=>cases J
 |panic v=>cases J
 |normal=>
 simp only at J
 obtain ⟨e,τ,a7,hk⟩:=Bv (ci X) V S ann hC fuel b J
 have b0:ops.size=more.length+1:=by have:=congrArg List.length M;omega
 have key: ∀ {out:Out U},(∀ (w:World) (vs:Array Value) (N0:aN) (ν:Nat->Nat) (δ:Nat->Option Nat) (ο:Nat->Array Value) (A:Given X w vs N0 ν δ ο args boxes),
   Lands X (gm w N0 boxes.length args.length ν δ ο A.oz S.nt E A.bnd X.gblk A.glob) [] e τ (bodyPost P fn (Ret X w N0 ν δ ο boxes.length args.length out)))->jS X (jM P u F) f args boxes out:=by
  intro out hl
  refine ⟨⟨fn,hf,O,T⟩,fun w vs N0 ν δ ο A=> ?_⟩
  suffices az:jM P u F f vs w (Ret X w N0 ν δ ο boxes.length args.length out) from CallsD.mono az fun e u2 w2 h=>⟨h.1,Ret.full h.2⟩
  refine callsD_of_wpS hf I fun j cs hu=> ?_
  have hs:=BO A W E
  rw [bt]
  have hl:=hl w vs N0 ν δ ο A
  generalize b1:gm w N0 boxes.length args.length ν δ ο A.oz S.nt E A.bnd X.gblk A.glob=c at hs hl
  have a8:c.nt=S.nt:=by rw [<-b1];rfl
  have bc:mV X (ci X) S c:=oi hI hS fun d hd=>by grind
  obtain ⟨val,B,dn,L⟩: ∃val B,(match recoverD (j::cs) with|some (v,b2)=>v=val/\b2=B|none=>val= .nilIface/\B=j::cs)/\(∃c1:Frame,B={j with mode:=F}::cs)/\ ∀ (w:World) (N:aN) (g:Gh U),Rep X w N g val v:=by
   cases hv with
   |nil=>
    refine ⟨.nilIface,j::cs, ?_,⟨j, ?_⟩,fun _ _ _=> .nilIface⟩
    ·simp [recoverD,hu]
    ·rw [<-hu]
   |err t k n=>
    refine ⟨.iface t (.int k n),_, ?_,⟨j,rfl⟩,fun _ _ _=> .iface _ _ _ (.int _ _)⟩
    simp [recoverD,hu]
  obtain ⟨⟨_,bf⟩,L⟩:=L
  refine wpS_seq (wpS_region ?_)
  rw [b0,List.range_eq_range',List.range'_succ]
  have h0:ops[0]? =some ⟨some d0,.call cl,ty,pos,after,none⟩:=by rw [<-Array.getElem?_toList,M];rfl
  simp only [wpOpsS,h0]
  have bh:(execOp (Act.eval ⟨vs++Array.replicate (S.nt-vs.size) undef,[]⟩) ⟨some d0,.call cl,ty,pos,after,none⟩).run P w= .ok .recover w:=by
   simp_all [QO,builtin]
  rw [if_pos (by rfl),bh]
  simp only
  have b3:wpOpsS P ops (Exit.thenS (b.wpS P (bodyPostS P fn j cs fun e u2 w'=>u2=F/\Ret X w N0 ν δ ο boxes.length args.length out e w')) (bodyPostS P fn j cs fun e u2 w'=>u2=F/\Ret X w N0 ν δ ο boxes.length args.length out e w')) (List.range' (0+1) more.length)
    (Act.put ⟨vs++Array.replicate (S.nt-vs.size) undef,[]⟩ (some d0) val) B w:=by
   have b4:=hs.put (d:=d0) (by grind) (L w _ _)
   have b5: ∀ {next:Act->List Frame->World->Prop},¬LetsOut (fun e a' w'=>Exit.thenS next (bodyPostS P fn j cs fun e u2 w'=>u2=F/\Ret X w N0 ν δ ο boxes.length args.length out e w') e a' B w'):=by
    rintro next ⟨a',w',u2,_,hq⟩
    exact hq
   refine alr b5 _ _ _ ?_
   refine Ur bc more 1 _ w _ _ _ fps (by grind) (by grind) b4 ax ?_
   intro a2 w2 g2 D2 b6 ch
   simp only [Exit.thenS]
   refine wpS_of_wp (oX hm bc a8 a7 a2 w2 g2 D2 _ (ch.eqv bz) ?_)
   intro a3 w3 g3 D3 cu cy
   have c5:a3.defers=[]:=cu.trans b6
   have hb:=hl a3 w3 g3 D3 c5 cy
   rw [bf]
   cases e with
   |normal=>obtain ⟨q1,v1,q2,q3⟩:=hb;exact ⟨q1,F,rfl,v1,q2,rfl,q3⟩
   |ret=>obtain ⟨q1,v1,q2,q3⟩:=hb;exact ⟨q1,F,rfl,v1,q2,rfl,q3⟩
   |exit id=>exact hb.elim
   |panic pv=>intro val' a6;obtain ⟨q1,q3⟩:=hb val' a6;exact ⟨q1,F,rfl,rfl,q3⟩
  grind
 cases e with
 |exit id=>cases hk
 |normal=>
  obtain ⟨r,ad,ao,gp,hr,ht,q⟩:=gx hC _ hk (St.eqv.refl τ)
  cases r with
  |out o=>
   refine ⟨o,q,key fun w vs N0 ν δ ο A a' w' g' D' hd hs=> ?_⟩
   obtain ⟨v,h1,h2⟩:=rz lc A.dom hs hr
   exact ⟨hd,v,h1,h2⟩
  |_=>cases q
 |ret=>
  obtain ⟨r,ad,ao,gp,hr,ht,q⟩:=gx hC _ hk (St.eqv.refl τ)
  cases r with
  |out o=>
   refine ⟨o,q,key fun w vs N0 ν δ ο A a' w' g' D' hd hs=> ?_⟩
   obtain ⟨v,h1,h2⟩:=rz lc A.dom hs hr
   exact ⟨hd,v,h1,h2⟩
  |_=>cases q
 |panic v=>
  obtain ⟨r,ad,ao,gp,hr,ht,q⟩:=gx hC _ hk (St.eqv.refl τ)
  cases r with
  |out o=>
   refine ⟨o,q,key fun w vs N0 ν δ ο A a' w' g' D' hd hs val bn=> ?_⟩
   exact ⟨hd,F0 lc A.dom hs bn hr⟩
  |_=>cases q
end
section
variable {U:Uni} {V:Env U} {P:Program} {X:Link V P}
def Ctx.refix (c:Ctx) (μ:Nat->Option Nat) (L:List Nat) (j:c.nt<=1000000) (q: ∀id∈L,1000000<=id):Ctx:=
 {c with
  fix:=fun id=>if id∈L then μ id else c.fix id
  low:=fun id k h=>by
   split at h
   ·grind
   ·exact c.low id k h}
theorem Sim.refix {c:Ctx} {tm:Array Value} {w:World} {σ:St U} {g:Gh U} {D:Nat->Option Nat} (h:Sim X c tm w σ g D) {L:List Nat} {j:c.nt<=1000000} {x: ∀id∈L,1000000<=id}:
  Sim X (c.refix g.μ L j x) tm w σ g D where
 nt:=h.nt
 regs:=h.regs
 boxes:=h.boxes
 dom:=h.dom
 inj:=h.inj
 new:=h.new
 objs:=h.objs
 nobj:=h.nobj
 dinj:=h.dinj
 dnew:=h.dnew
 dbox:=h.dbox
 ext:=h.ext
 gl:=h.gl
 fix:=fun id k hk=>by
  simp only [Ctx.refix]
  by_cases q:id∈L
  ·grind
  ·rw [if_neg q];exact h.fix id k hk
theorem CtxOf.refix {c:Ctx} {tm:Array Value} {w:World} {σ:St U} {g:Gh U} {D:Nat->Option Nat} (h:Sim X c tm w σ g D) {L:List Nat} {x:c.nt<=1000000} {A: ∀id∈L,1000000<=id} (q: ∀id∈L,∃b,g.μ id=some b)
  {w0:World} {N0:aN} {n m:Nat} {ν:Nat->Nat} {δ:Nat->Option Nat} {ο:Nat->Array Value} (hc:CtxOf c w0 N0 n m ν δ ο):CtxOf (c.refix g.μ L x A) w0 N0 n m ν δ ο where
 cw:=hc.cw
 cN:=hc.cN
 bl:=hc.bl
 fix i z:=by
  simp only [Ctx.refix]
  by_cases j:df i∈L
  ·rw [if_pos j]
   obtain ⟨b,hb⟩:=q _ j
   rcases h.fix _ _ hb with h1|⟨h1,_⟩
   ·rw [hb,<-h1];exact hc.fix i z
   ·rw [hc.fix i z] at h1;cases h1
  ·rw [if_neg j];exact hc.fix i z
 other id k hk:=by
  simp only [Ctx.refix] at hk
  by_cases j:id∈L
  ·rw [if_pos j] at hk
   rcases h.fix _ _ hk with h1|⟨_,h1⟩
   ·exact hc.other id k h1
   ·rw [hc.cw] at h1;omega
  ·rw [if_neg j] at hk;exact hc.other id k hk
 bnd:=hc.bnd
 oo:=hc.oo
def Ca (h:Ctx) (caps:List (PV U)) (us:Array Value):Prop:=us.size=caps.length/\ ∀ (j:Nat) p,caps[j]? =some p-> ∃id off b,p= .ptr id off/\h.fix id=some b/\us.getD j undef= .pointer (some ⟨b,off,none⟩)
def Cc (X:Link V P) (S:Side U) (code:Code) (σ:St U) (h:FuncId) (caps:List (PV U)) (e:Ex U) (τ:St U):Prop:=
 ∀ (c:Ctx),PinOK S c->c.nt=S.nt-> ∀ (a:Act) (w:World) (g:Gh U) (D:Nat->Option Nat) (Q:Exit->Act->World->Prop),Sim X c a.tmps w σ g D->a.defers=[]->
  (∀ (us:Array Value) (j:Ctx),(∀w0 N0 n m ν δ ο,CtxOf c w0 N0 n m ν δ ο->CtxOf j w0 N0 n m ν δ ο)->j.nt=c.nt->Ca j caps us->Lands X j [{target:= .fn (.func h) us,args:= #[]}] e τ Q)->code.wp P Q a w
theorem aaj {l:List Oper} {o:Oper} {n:Tmp} (h:D4 l=some (o,n)): ∃q cl,l=[o,q]/\o.dst=some n/\o.guard=none/\q.dst=none/\q.op= .defer cl/\q.guard=none/\cl.callee= .value (.tmp n)/\cl.args= #[]:=by
 unfold D4 at h
 split at h
 case h_2=>cases h
 rename_i z q
 split at h
 case h_2=>cases h
 rename_i m cl h1 h2 A B E
 split at h
 case h_2=>cases h
 rename_i j x
 cases hb:(ar3 m j&&cl.args.isEmpty)<;>simp_all
theorem aiy (hm:P.follows .mixedOrders=true) (hI:lf X) {S:Side U} (hS:S.rcv=none) (dd:S.nt<=1000000) {R:Type} {C:Oracle U R} (hC:C.Tells (ci X)) {ann:Nat->Option Ann} {fuel:Nat}:
  ∀ (code:Code) {σ:St U} {A:Ex U->St U->Option R} {E:FuncId->List (PV U)->Ex U->St U->Option R} {x:R},oD V S C ann fuel code σ A E=some x->
   (∃e τ,e≠ .normal/\A e τ=some x/\ ∀c,PinOK S c->c.nt=S.nt->wE X c none code σ e τ)\/
   (∃h caps e τ,E h caps e τ=some x/\Cc X S code σ h caps e τ):=by
 intro code
 induction code with
 |seq a b b2 b3=>
  intro σ A E x h
  have step:run V S C ann fuel a σ (fun| .normal,σ'=>oD V S C ann fuel b σ' A E|e,σ'=>A e σ')=some x->
    (∃e τ,e≠ .normal/\A e τ=some x/\ ∀c,PinOK S c->c.nt=S.nt->wE X c none (.seq a b) σ e τ)\/
    (∃h caps e τ,E h caps e τ=some x/\Cc X S (.seq a b) σ h caps e τ):=by
   intro h
   obtain ⟨e,τ,z,hk⟩:=Bv (ci X) V S ann hC fuel a h
   have early:e≠ .normal->A e τ=some x->_:=fun he hk=>(.inl ⟨e,τ,he,hk,fun c hP B=>oX hm (oi hI hS hP) B (.seqE a b _ _ _ z he)⟩:
    (∃e τ,e≠ .normal/\A e τ=some x/\ ∀c,PinOK S c->c.nt=S.nt->wE X c none (.seq a b) σ e τ)\/(∃h caps e τ,E h caps e τ=some x/\Cc X S (.seq a b) σ h caps e τ))
   cases e with
   |normal=>
    rcases b3 hk with ⟨e',τ',b4,T,hB⟩|⟨hh,caps,e',τ',T,hB⟩
    ·exact .inl ⟨e',τ',b4,T,fun c hP B a' w g D Q hs hl=>wp_seq (oX hm (oi hI hS hP) B z a' w g D _ hs fun a2 W g2 D2 Y I=>hB c hP B a2 W g2 D2 Q I (by grind))⟩
    ·exact .inr ⟨hh,caps,e',τ',T,fun c hP B a' w g D Q hs hd hl=>wp_seq (oX hm (oi hI hS hP) B z a' w g D _ hs fun a2 W g2 D2 Y I=>hB c hP B a2 W g2 D2 Q I (Y.trans hd) hl)⟩
   |exit id=>grind
   |ret=>grind
   |panic v=>grind
  clear b2
  unfold oD at h
  split at h
  case h_2=>grind
  rename_i id ops draw
  split at h
  case h_2=>grind
  rename_i o n a7
  obtain ⟨q,cl,J,ds,b5,a8,bc,ad,dx,b6⟩:=aaj a7
  cases hc:(!draw&&bq S.nt o) with
  |false=>grind
  |true=>
  rw [hc] at h
  simp only [cond_true] at h
  simp only [anZ,Bool.not_eq_true'] at hc
  obtain ⟨ao,dy⟩:=hc
  subst ao
  obtain ⟨r,ch,τ,gp,bf,ht,hk⟩:=gx hC _ h (St.eqv.refl σ)
  cases r with
  |raise v=>cases hk
  |out o=>cases hk
  |done=>
  simp only at hk
  split at hk
  case h_2=>cases hk
  rename_i hh caps M
  cases hp:caps.all PV.pinned with
  |false=>grind
  |true=>
  rw [hp] at hk
  simp only [cond_true] at hk
  obtain ⟨e,cu,z,bh⟩:=Bv (ci X) V {S with pin:=fun _=>false} ann hC fuel b hk
  refine .inr ⟨hh,caps,e,cu,bh,fun c hP B a w g D Q hs dh hl=>wp_seq (wp_region ?_)⟩
  have cy:ops.size=2:=by have:=congrArg List.length J;omega
  have h0:ops[0]? =some o:=by rw [<-Array.getElem?_toList,J];rfl
  have h1:ops[1]? =some q:=by rw [<-Array.getElem?_toList,J];rfl
  rw [cy,show arU 2=[0,1] from rfl]
  simp only [wpOps,h0,h1]
  rw [if_pos (by simp [Region.wanted,b5])]
  refine .inl (oi hI hS hP o a w σ g D .done ch [] gp _ _ (by grind) hs bf ⟨fun _ a2 W g2 D2 Y I=> ?_,fun v hv=>by cases hv⟩)
  rw [if_pos (by simp [Region.wanted,ad])]
  refine .inl ?_
  have ax:=I.eqv ht
  have hR:=ax.regs n
  rw [M] at hR
  generalize c5:a2.tmps.getD n undef=ev at hR
  cases hR with
  |func _ _ _ vs us ea bn c9 az=>
  have bt:vs= #[]:=by
   grind
  subst bt
  obtain ⟨qd,qo,qt,qp,qa,qg⟩:=q
  simp only at a8 bc ad
  subst a8;subst bc;subst ad
  have bz:(execOp a2.eval ⟨none,.defer cl,qt,qp,qa,none⟩).run P W= .ok (.defer {target:= .fn (.func hh) us,args:= #[]}) W:=by
   have dn:a2.eval (.tmp n)= .func (.func hh) #[] us:=c5
   simp_all [execOp,resolve,Deferred.ofValue]
  unfold Oper.wp
  rw [bz,Oper.upon_defer]
  have L: ∀id∈PV.idsL caps,1000000<=id/\ ∃b,g2.μ id=some b:=by
   intro id F
   obtain ⟨p,b0,b1⟩: ∃p∈caps,id∈p.ids:=by
    clear hl bh z hk c9 az bn M hp h step
    induction caps<;>grind [PV.idsL]
   have a6:=ars.1 hp p b0
   obtain ⟨j,hj⟩:=List.mem_iff_getElem?.1 b0
   have hr:=az j p hj
   cases p with
   |ptr id' off=>
    simp only [PV.ids,List.mem_singleton] at b1
    subst b1
    refine ⟨by simp_all [PV.pinned], ?_⟩
    generalize us.getD j undef=uv at hr
    cases hr<;>grind
   |_=>cases a6
  have O:c.nt<=1000000:=by omega
  refine oX (S:={S with pin:=fun _=>false}) hm (oi hI hS fun d hd=>by cases hd) (c:=c.refix g2.μ (PV.idsL caps) O fun id F=>(L id F).1) B z _ W g2 D2 Q ax.refix ?_
  have ec:=hl us (c.refix g2.μ (PV.idsL caps) O fun id F=>(L id F).1) (fun w0 N0 n m ν δ ο hc=>CtxOf.refix ax (fun id F=>(L id F).2) hc) rfl ⟨bn,fun j p hj=> ?_⟩
  ·grind [Act.put]
  ·have a6:=ars.1 hp p (art hj)
   have hr:=az j p hj
   cases p with
   |ptr id off=>
    have ed:id∈PV.idsL caps:=fj hj id (by simp [PV.ids])
    generalize us.getD j undef=uv at hr
    cases hr<;>grind [Ctx.refix]
   |_=>cases a6
 |_=>intro σ A E x h;cases h
end
section
variable {U:Uni} {V:Env U} {P:Program} {X:Link V P}
theorem Fe {fn:Func} {w0:World} {N0:aN} {n m:Nat} {ν:Nat->Nat} {δ:Nat->Option Nat} {M:Ctx} {ο:Nat->Array Value} (hc:CtxOf M w0 N0 n m ν δ ο) (O: ∀j b,δ j=some b->j<m) {v:PV U} {u u':FrameMode} (hv:RcvOK v u u')
  {E:FuncId} {caps:List (PV U)} {us:Array Value} (T:Ca M caps us) {τ W:St U} {r:MR U} {Y:St U} {gp a7:List Loc} {K:cj U} {keep:Bool} {hand:List Bool} {out:Out U} {a8:St U}
  (ad:(iq (PV.idsL caps) fun _=>iV (fun _=>0) (fun _=>[]) [] none (.func E [] caps) []).Rel (jS X (jM P u u')) τ [] r Y gp) (hr:r= .done) (ht:Y.eqv W) (ao:(jC V keep hand fn.results.toList n).Rel K W [] (.out out) a8 a7)
  {a:Act} {w:World} {g:Gh U} {D:Nat->Option Nat} (hs:Sim X M a.tmps w τ g D):
  Leaves P fn a.tmps (Ret X w0 N0 ν δ ο n m out) [{target:= .fn (.func E) us,args:= #[]}] u w:=by
 obtain ⟨bs,b0,F,I,bc⟩:=EB _ ad
 have hR:Rep X w (M.N g D) g (.func (.func E) #[] us) (.func E [] caps):=by
  refine .func E [] caps #[] us rfl T.1 (by simp) fun j p hp=> ?_
  obtain ⟨id,off,b,rfl,B,bf⟩:=T.2 j p hp
  rw [bf]
  refine .ptr id off b ?_
  have ax:id∈PV.idsL caps:=fj hp id (by simp [PV.ids])
  rw [<-I] at ax
  obtain ⟨x,hx,rfl⟩:=arR.1 ax
  obtain ⟨k,hk,_⟩:=hs.boxes x.1 x.2 (bc x hx)
  rcases hs.fix _ _ hk with h1|⟨h1,_⟩
  ·rw [B] at h1;injection h1 with h1;rw [h1];exact hk
  ·rw [B] at h1;cases h1
 obtain ⟨f,a0s,b1,bh,⟨b2,bn,q,z⟩,J⟩:=Jv (X:=X) (c:=M) (a:=a) (dst:=none) (o:=⟨none,.move (.const undef),0, "",#[],none⟩) (CP:=jM P u u') (xs:= #[])
  (next:=fun a2 L=>Leaves P fn a2.tmps (Ret X w0 N0 ν δ ο n m out) [] .returning L) (Q:=fun _ _ _=>False)
  (fun {f vs w R R'} h hm=>CallsD.mono h fun e u2 L ⟨h1,h2⟩=>⟨h1,hm e L h2⟩) hs hR rfl (by simp) rfl rfl F
  ⟨fun _ a2 L g2 D2 _ bt=>by
   obtain ⟨v,h1,h2⟩:=rz hc O (bt.eqv ht) ao
   exact ⟨v,h1,h2⟩,fun v hv=>by rw [hr] at hv;cases hv⟩
 injection bh with e1 e2 e3
 injection e1 with e1
 subst e1;subst e2;subst e3
 have bz:u≠ .run:=by cases hv<;>simp
 refine leaves_cons bz (f:=E) (args:= #[]++us) (by simp only [invoke];exact QP bn q z _ w) ?_
 have A:CallsD P E (#[]++us) u w fun e u2 w'=>u2=u'/\(match e,w' with
    | .returned v,az=>Leaves P fn (a.put none v).tmps (Ret X w0 N0 ν δ ο n m out) [] .returning az
    | .panicked chain,az=>False
    | .outgrown,_=>LetsOut (fun _ _ _=>False)):=by
  have:=J
  simp only [Array.append_empty] at this
  exact this.mono fun e u2 L ⟨h1,h2⟩=>⟨h1,by cases e<;>exact h2⟩
 refine A.mono fun e u2 L ⟨h1,h2⟩=> ?_
 subst h1
 cases e with
 |returned rv=>
  simp only [Act.put] at h2
  have a6:settle u2= .returning:=by cases hv<;>rfl
  simp only [a6]
  exact h2
 |panicked chain=>exact h2.elim
 |outgrown=>obtain ⟨_,_,h⟩:=h2;exact h.elim
theorem aix (hm:P.follows .mixedOrders=true) (hI:lf X) {S:Side U} (hS:S.rcv=none) {R:Type} {C:Oracle U R} (hC:C.Tells (ci X)) {Cd:PV U->Oracle U R} (a6: ∀v u u',RcvOK v u u'->(Cd v).Tells (jS X (jM P u u')))
  {f:FuncId} {fn:Func} (hf:P.funcs[f]? =some fn)
  (O:(fn.name== "runtime.NumGoroutine")=false) (z:fn.body.isNone=false) (ao:fn.ntmps=S.nt) (B:S.nt<=1000000) {args:List (PV U)} {boxes:List (Box U)} (T:args.length<=S.nt) (az:boxes.length<=1000000)
  {ann:Nat->Option Ann} {fuel:Nat} {keep:Bool} {hand:List Bool} {κ:Out U->Option R} {x:R} (h:G4 V S C ann fuel Cd keep hand fn args boxes κ=some x): ∃out,κ out=some x/\ci X f args boxes out:=by
 obtain ⟨code,F⟩: ∃code,fn.body=some code:=by
  cases hb:fn.body with
  |none=>rw [hb] at z;cases z
  |some code=>exact ⟨code,rfl⟩
 unfold G4 atJ at h
 rw [F] at h
 have Y: ∀ {w:World} {vs:Array Value} {N0:aN} {ν:Nat->Nat} {δ:Nat->Option Nat} {ο:Nat->Array Value} (j:Given X w vs N0 ν δ ο args boxes),PinOK S (gm w N0 boxes.length args.length ν δ ο j.oz S.nt B j.bnd X.gblk j.glob):=by
  intro w vs N0 ν δ ο j d _
  simp only [gm]
  rw [if_neg (by omega)]
 rcases aiy (X:=X) hm hI hS B hC code h with ⟨e,τ,he,hk,hB⟩|⟨hh,caps,e,τ,hk,hB⟩
 ·have key: ∀ {out:Out U},(∀ (w:World) (vs:Array Value) (N0:aN) (ν:Nat->Nat) (δ:Nat->Option Nat) (ο:Nat->Array Value) (j:Given X w vs N0 ν δ ο args boxes),
    Lands X (gm w N0 boxes.length args.length ν δ ο j.oz S.nt B j.bnd X.gblk j.glob) [] e τ (bodyPost P fn (Ret X w N0 ν δ ο boxes.length args.length out)))->ci X f args boxes out:=by
   intro out hl
   refine ⟨⟨fn,hf,O,z⟩,fun w vs N0 ν δ ο j=>Calls.mono (calls_of_wp (R:=Ret X w N0 ν δ ο boxes.length args.length out) hf F ?_) fun e w h=>Ret.full h⟩
   have hs:=BO j T B
   rw [ao]
   exact hB _ (Y j) rfl _ w _ _ _ hs (hl w vs N0 ν δ ο j)
  cases e with
  |exit id=>cases hk
  |normal=>exact absurd rfl he
  |ret=>
   obtain ⟨r,A,q,gp,hr,ht,E⟩:=gx hC _ hk (St.eqv.refl τ)
   cases r with
   |out o=>
    refine ⟨o,E,key fun w vs N0 ν δ ο j a' w' g' D' hd hs=> ?_⟩
    obtain ⟨v,h1,h2⟩:=rz lc j.dom hs hr
    exact ⟨hd,v,h1,h2⟩
   |_=>cases E
  |panic v=>
   obtain ⟨r,A,q,gp,hr,ht,E⟩:=gx hC _ hk (St.eqv.refl τ)
   cases r with
   |out o=>
    refine ⟨o,E,key fun w vs N0 ν δ ο j a' w' g' D' hd hs val W=> ?_⟩
    exact ⟨hd,F0 lc j.dom hs W hr⟩
   |_=>cases E
 ·have key: ∀ {out:Out U},(∀ (w:World) (vs:Array Value) (N0:aN) (ν:Nat->Nat) (δ:Nat->Option Nat) (ο:Nat->Array Value) (j:Given X w vs N0 ν δ ο args boxes) (us:Array Value) (c':Ctx),CtxOf c' w N0 boxes.length args.length ν δ ο->Ca c' caps us->
    Lands X c' [{target:= .fn (.func hh) us,args:= #[]}] e τ (bodyPostD P fn (Ret X w N0 ν δ ο boxes.length args.length out)))->ci X f args boxes out:=by
   intro out hl
   refine ⟨⟨fn,hf,O,z⟩,fun w vs N0 ν δ ο j=>Calls.mono (calls_of_wp_defers (R:=Ret X w N0 ν δ ο boxes.length args.length out) hf F ?_) fun e w h=>Ret.full h⟩
   have hs:=BO j T B
   rw [ao]
   exact hB _ (Y j) rfl _ w _ _ _ hs rfl fun us c' I _ J=>hl w vs N0 ν δ ο j us c' (I _ _ _ _ _ _ _ lc) J
  have fin: ∀ {v:PV U} {u u':FrameMode},RcvOK v u u'->(iq (PV.idsL caps) fun _=>iV (fun _=>0) (fun _=>[]) [] none (.func hh [] caps) []).cps (Cd v) τ [] (fun| .done,σ',_=>(jC V keep hand fn.results.toList boxes.length).cps C σ' [] (Go.Proofs.YtgmmefmmnakbpaaGreatDoor.PI.fin κ)|_,_,_=>none)=some x->
    ∃ (out:Out U) (r:MR U) (A q L:St U) (gp M:List Loc),κ out=some x/\(iq (PV.idsL caps) fun _=>iV (fun _=>0) (fun _=>[]) [] none (.func hh [] caps) []).Rel (jS X (jM P u u')) τ [] r A gp/\r= .done/\A.eqv q/\(jC V keep hand fn.results.toList boxes.length).Rel (ci X) q [] (.out out) L M:=by
   intro v u u' hv hk
   obtain ⟨r,A,q,gp,hr,ht,ad⟩:=gx (a6 v u u' hv) _ hk (St.eqv.refl τ)
   cases r with
   |raise v=>cases ad
   |out o=>cases ad
   |done=>
    obtain ⟨r',L,a8,M,a7,bc,ax⟩:=gx hC _ ad (St.eqv.refl q)
    cases r' with
    |out o=>exact ⟨o,.done,A,q,L,gp,M,ax,hr,rfl,ht,a7⟩
    |_=>cases ax
  cases e with
  |exit id=>cases hk
  |normal=>
   obtain ⟨out,r,A,q,L,gp,M,h1,h2,h3,h4,h5⟩:=fin .nil hk
   refine ⟨out,h1,key fun w vs N0 ν δ ο j us c' I J a' w' g' D' hd hs=> ?_⟩
   simp only [bodyPostD,hd]
   exact Fe I j.dom .nil J h2 h3 h4 h5 hs
  |ret=>
   obtain ⟨out,r,A,q,L,gp,M,h1,h2,h3,h4,h5⟩:=fin .nil hk
   refine ⟨out,h1,key fun w vs N0 ν δ ο j us c' I J a' w' g' D' hd hs=> ?_⟩
   simp only [bodyPostD,hd]
   exact Fe I j.dom .nil J h2 h3 h4 h5 hs
  |panic v=>
   simp only [kD] at hk
   split at hk
   case h_2=>cases hk
   rename_i t k n'
   obtain ⟨out,r,A,q,L,gp,M,h1,h2,h3,h4,h5⟩:=fin (.err t k n') hk
   refine ⟨out,h1,key fun w vs N0 ν δ ο j us c' I J a' w' g' D' hd hs val W=> ?_⟩
   simp only [bodyPostD,hd]
   cases W with
   |iface _ u _ hu=>cases hu;exact Fe I j.dom (.err t k n') J h2 h3 h4 h5 hs
end
end Go.Proofs.YtgmmefmmnakbpaaGreatDoor.PI
namespace Go.Proofs.YtgmmefmmnakbpaaGreatDoor
open Go PI
set_option maxRecDepth 100000
noncomputable section
noncomputable def uu:ET->TypeId
 | .C=>80
 | .T=>27
 | .B=>62
 | .I=>3
 | .F=>23
 | .D=>53
 | .G=>52
noncomputable def pQ:ET->Nat
 | .C=>2
 | .T=>6
 | .B=>2
 | .I=>1
 | .F=>1
 | .D=>7
 | .G=>7
noncomputable def zQ:ET->Nat
 | .C=>8
 | .T=>104
 | .B=>48
 | .I=>8
 | .F=>24
 | .D=>120
 | .G=>120
noncomputable def zY (e:ET):Value:=((Tryz.prog.info? (uu e)).bind (·.zero)).getD undef
noncomputable def Ep (e:ET):Bool:=match Tryz.prog.info? (uu e) with
 |some i=>i.zero.isSome&&(ar3 i.size (pQ e)&&ar3 i.bytes (zQ e))&&ar3 (zY e).cells.size (pQ e)
 | .none=>false
theorem KA (e:ET):Ep e=true:=by cases e<;>kernel_rfl
theorem T7: ∀t r,wy t=some r->I9 Tryz.prog uu t r=true:=by
 intro t r h
 unfold wy at h
 split at h<;>first|(injection h with h;subst h;kernel_rfl)|cases h
theorem aeb: ∀t r e,wy t=some r->r.keys=some e->e= .C:=by
 intro t r e h hk
 unfold wy at h
 split at h<;>first|(injection h with h;subst h;cases hk;done)|(injection h with h;subst h;injection hk with hk;exact hk.symm)|cases h
theorem akU: ∀e cs y,T3 e cs=some y->cs.length=pQ e/\cs.all PV.isCell=true/\ ∀ (k:Nat) p,cs[k]? =some p-> ∃q,(asF e y)[k]? =some q/\p.less q:=by
 have hC: ∀ {p:PU} {l},oO p=some l-> ∃o,p= .sl (U:=UU) ET.C l o:=by
  intro p l h;unfold oO at h;split at h<;>first|(injection h with h;subst h;exact ⟨_,rfl⟩)|cases h
 have hT: ∀ {p:PU} {l},sn p=some l-> ∃o,p= .sl (U:=UU) ET.T l o:=by
  intro p l h;unfold sn at h;split at h<;>first|(injection h with h;subst h;exact ⟨_,rfl⟩)|cases h
 have hB: ∀ {p:PU} {l},wJ p=some l-> ∃o,p= .sl (U:=UU) ET.B l o:=by
  intro p l h;unfold wJ at h;split at h<;>first|(injection h with h;subst h;exact ⟨_,rfl⟩)|cases h
 intro e cs y h
 cases e
 ·have h:I4 cs=some y:=h
  unfold I4 at h
  split at h
  case h_2=>cases h
  injection h with h;subst h
  refine ⟨rfl,rfl,fun k p hp=> ?_⟩
  match k,hp with
  |0,hp=>exact ⟨_,rfl,.inl (Option.some.inj hp).symm⟩
  |1,hp=>exact ⟨_,rfl,.inl (Option.some.inj hp).symm⟩
  |k+2,hp=>simp at hp
 ·have h:I7 cs=some y:=h
  unfold I7 at h
  split at h
  case h_2=>cases h
  split at h
  case h_2=>cases h
  rename_i h1 h2 j
  injection h with h;subst h
  obtain ⟨x,rfl⟩:=hC h1;obtain ⟨z,rfl⟩:=hT h2;obtain ⟨A,rfl⟩:=hB j
  refine ⟨rfl,rfl,fun k p hp=> ?_⟩
  match k,hp with
  |0,hp=>exact ⟨_,rfl,.inl (Option.some.inj hp).symm⟩
  |1,hp=>exact ⟨_,rfl,.inl (Option.some.inj hp).symm⟩
  |2,hp=>exact ⟨_,rfl,.inl (Option.some.inj hp).symm⟩
  |3,hp=>exact ⟨_,rfl,.inr ⟨_,_,_,(Option.some.inj hp).symm,rfl⟩⟩
  |4,hp=>exact ⟨_,rfl,.inr ⟨_,_,_,(Option.some.inj hp).symm,rfl⟩⟩
  |5,hp=>exact ⟨_,rfl,.inr ⟨_,_,_,(Option.some.inj hp).symm,rfl⟩⟩
  |k+6,hp=>simp at hp
 ·have h:I3 cs=some y:=h
  unfold I3 at h
  split at h
  case h_2=>cases h
  split at h
  case h_2=>cases h
  rename_i h1 h2
  injection h with h;subst h
  obtain ⟨x,rfl⟩:=hC h1;obtain ⟨z,rfl⟩:=hT h2
  refine ⟨rfl,rfl,fun k p hp=> ?_⟩
  match k,hp with
  |0,hp=>exact ⟨_,rfl,.inr ⟨_,_,_,(Option.some.inj hp).symm,rfl⟩⟩
  |1,hp=>exact ⟨_,rfl,.inr ⟨_,_,_,(Option.some.inj hp).symm,rfl⟩⟩
  |k+2,hp=>simp at hp
 ·have h:I6 cs=some y:=h
  unfold I6 at h
  split at h
  case h_2=>cases h
  injection h with h;subst h
  refine ⟨rfl,rfl,fun k p hp=> ?_⟩
  match k,hp with
  |0,hp=>exact ⟨_,rfl,.inl (Option.some.inj hp).symm⟩
  |k+1,hp=>simp at hp
 ·have h:I5 cs=some y:=h
  unfold I5 at h
  split at h
  case h_2=>cases h
  obtain ⟨x,rfl⟩:=hC h
  refine ⟨rfl,rfl,fun k p hp=> ?_⟩
  match k,hp with
  |0,hp=>exact ⟨_,rfl,.inr ⟨_,_,_,(Option.some.inj hp).symm,rfl⟩⟩
  |k+1,hp=>simp at hp
 ·have h:rS cs=some y:=h
  unfold rS at h
  split at h
  case h_2=>cases h
  split at h
  case h_2=>cases h
  rename_i h1 h2 j
  injection h with h;subst h
  obtain ⟨x,rfl⟩:=hC h1;obtain ⟨z,rfl⟩:=hT h2;obtain ⟨A,rfl⟩:=hB j
  refine ⟨rfl,rfl,fun k p hp=> ?_⟩
  match k,hp with
  |0,hp=>exact ⟨_,rfl,.inl (Option.some.inj hp).symm⟩
  |1,hp=>exact ⟨_,rfl,.inl (Option.some.inj hp).symm⟩
  |2,hp=>exact ⟨_,rfl,.inl (Option.some.inj hp).symm⟩
  |3,hp=>exact ⟨_,rfl,.inl (Option.some.inj hp).symm⟩
  |4,hp=>exact ⟨_,rfl,.inr ⟨_,_,_,(Option.some.inj hp).symm,rfl⟩⟩
  |5,hp=>exact ⟨_,rfl,.inr ⟨_,_,_,(Option.some.inj hp).symm,rfl⟩⟩
  |6,hp=>exact ⟨_,rfl,.inr ⟨_,_,_,(Option.some.inj hp).symm,rfl⟩⟩
  |k+7,hp=>simp at hp
 ·have h:rS cs=some y:=h
  unfold rS at h
  split at h
  case h_2=>cases h
  split at h
  case h_2=>cases h
  rename_i h1 h2 j
  injection h with h;subst h
  obtain ⟨x,rfl⟩:=hC h1;obtain ⟨z,rfl⟩:=hT h2;obtain ⟨A,rfl⟩:=hB j
  refine ⟨rfl,rfl,fun k p hp=> ?_⟩
  match k,hp with
  |0,hp=>exact ⟨_,rfl,.inl (Option.some.inj hp).symm⟩
  |1,hp=>exact ⟨_,rfl,.inl (Option.some.inj hp).symm⟩
  |2,hp=>exact ⟨_,rfl,.inl (Option.some.inj hp).symm⟩
  |3,hp=>exact ⟨_,rfl,.inl (Option.some.inj hp).symm⟩
  |4,hp=>exact ⟨_,rfl,.inr ⟨_,_,_,(Option.some.inj hp).symm,rfl⟩⟩
  |5,hp=>exact ⟨_,rfl,.inr ⟨_,_,_,(Option.some.inj hp).symm,rfl⟩⟩
  |6,hp=>exact ⟨_,rfl,.inr ⟨_,_,_,(Option.some.inj hp).symm,rfl⟩⟩
  |k+7,hp=>simp at hp
theorem acB (e:ET): ∃i,Tryz.prog.info? (uu e)=some i/\i.zero=some (zY e)/\i.size=pQ e/\i.bytes=zQ e:=by
 have h:=KA e
 unfold Ep at h
 split at h
 ·rename_i i j
  simp only [anZ] at h
  obtain ⟨⟨h1,h2,q⟩,A⟩:=h
  refine ⟨i,j, ?_,by simpa using h2,by simpa using q⟩
  unfold zY
  rw [j]
  obtain ⟨z,x⟩:=Option.isSome_iff_exists.1 h1
  simp [x]
 ·cases h
noncomputable def LL (o:Obj):Link VV Tryz.prog where
 gblk:=[(0,o)]
 etid:=uu
 esize:=pQ
 ebytes:=zQ
 ezero:=zY
 einfo:=acB
 zsize:=fun e=>by
  have h:=KA e
  unfold Ep at h
  split at h
  ·simp only [anZ] at h
   exact by simpa using h.2
  ·cases h
 epos:=fun e=>by cases e<;>decide
 broom:=fun e n h=>by
  have h':n<=1099511627776:=h
  cases e<;>simp only [zQ,maxLen]<;>omega
 len:=fun e x=>by cases e<;>rfl
 small:=fun e=>by cases e<;>decide
 ecell':=fun e x=>by cases e<;>rfl
 toEl:=akU
 ty:=fun t r h=>T6 (T7 t r h)
 keyT:=fun t r e h hk=>by
  have he:=aeb t r e h hk
  subst he
  obtain ⟨fs,h1,h2,_,j,q⟩:=(T6 (T7 80 _ rfl)).isInts rfl
  exact ⟨⟨fs,h1,h2,j,q⟩,fun x y=>⟨_,by simp only [VV,asF,PV.eqvI];rfl⟩⟩
theorem Ax:Tryz.prog.follows .mixedOrders=true:=by kernel_rfl
theorem sw {A B:Out UU->Prop} (h: ∃out,A out/\B out): ∃out,B out/\A out:=by obtain ⟨o,a,b⟩:=h;exact ⟨o,b,a⟩
theorem ZM {S:Type} {b:Bool} {x y:Option S} {v:S} (h:(bif b then x else y)=some v):x=some v\/y=some v:=by
 cases b
 ·exact .inr h
 ·exact .inl h
end
end Go.Proofs.YtgmmefmmnakbpaaGreatDoor
namespace Go.Proofs.YtgmmefmmnakbpaaGreatDoor
open Go PI
def U32 (s:Int):Prop:=0<=s/\s<4294967296
theorem U32.nat {s:Int} (h:U32 s): ∃n:Nat,n<4294967296/\s=n:=⟨s.toNat,by have:=h.1;have:=h.2;omega,by have:=h.1;omega⟩
theorem avt {n:Nat} (h:n<4294967296):(BitVec.ofInt 32 (n:Int)).toNat=n:=by
 grind
theorem ld (n:Nat) (h:n<4294967296):su .u32 (n:Int)=n:=by
 grind [su,IntKind.bits,IntKind.signed]
theorem iR (n:Nat) (h:n<18446744073709551616):su .u64 (n:Int)=n:=by
 grind [su,IntKind.bits,IntKind.signed]
theorem alX {n:Int} (h1: -9223372036854775808<=n) (h2:n<9223372036854775808):su .i64 n=n:=by
 grind [su,IntKind.bits,IntKind.signed]
theorem aye {a b n:Nat} (h:a<2^n):a&&&b<2^n:=Nat.lt_of_le_of_lt Nat.and_le_left h
theorem lj {a b:Nat} (ha:a<4294967296) (hb:b<4294967296):bj .and .u32 (a:Int) (b:Int)=((a&&&b:Nat):Int):=by
 have h1:=avt ha;have h2:=avt hb
 simp only [bj]
 show su .u32 (((BitVec.ofInt 32 (a:Int))&&&(BitVec.ofInt 32 (b:Int))).toNat:Int)=_
 rw [BitVec.toNat_and,h1,h2]
 exact ld _ (aye (n:=32) ha)
theorem wK {a b:Nat} (ha:a<4294967296) (hb:b<4294967296):bj .or .u32 (a:Int) (b:Int)=((a|||b:Nat):Int):=by
 have h1:=avt ha;have h2:=avt hb
 simp only [bj]
 show su .u32 (((BitVec.ofInt 32 (a:Int))|||(BitVec.ofInt 32 (b:Int))).toNat:Int)=_
 rw [BitVec.toNat_or,h1,h2]
 exact ld _ (Nat.or_lt_two_pow (n:=32) ha hb)
def dL (a b:Nat):Nat:=a^^^(a&&&b)
theorem mm (a b i:Nat):(dL a b).testBit i=(a.testBit i&& !b.testBit i):=by
 grind [dL]
theorem vq {a b n:Nat} (h:a<2^n):dL a b<2^n:=Nat.xor_lt_two_pow h (aye h)
theorem C_ {a b:Nat} (ha:a<4294967296) (hb:b<4294967296):bj .andNot .u32 (a:Int) (b:Int)=((dL a b:Nat):Int):=by
 have h1:=avt ha;have h2:=avt hb
 simp only [bj]
 show su .u32 (((BitVec.ofInt 32 (a:Int))&&& ~~~(BitVec.ofInt 32 (b:Int))).toNat:Int)=_
 have e:((BitVec.ofInt 32 (a:Int))&&& ~~~(BitVec.ofInt 32 (b:Int))).toNat=dL a b:=by
  apply Nat.eq_of_testBit_eq
  intro i
  rw [mm,BitVec.toNat_and,Nat.testBit_and,h1]
  by_cases h:i<32
  ·grind
  ·have:a.testBit i=false:=Nat.testBit_lt_two_pow (Nat.lt_of_lt_of_le ha (by exact Nat.pow_le_pow_right (n:=2) (by decide) (show 32<=i by omega)))
   grind
 rw [e]
 exact ld _ (vq (n:=32) ha)
theorem aY {α:Type} (p:Prop) [Decidable p] (x y:α):ab (decide p) x y=if p then x else y:=by
 grind [ae,n3]
theorem cH {α:Type} (c:Bool) (x y:α):ab c x y=if c=true then x else y:=by
 grind [n3,ae]
abbrev Fu (k:Nat):Prop:=4294967296<=k
theorem ag {R S:Type} {k:Nat} (h:Fu k) (f:(R->OS S)->OS S) (g:R->OS S):aa k f g=f g:=ZV (by omega) f g
theorem J5 {S:Type} {n m:Nat} (h:n+m<=1099511627776) (f:Unit->OS S):asP (aw 1099511627776 n m) f=f ():=by
 grind [aw]
theorem apy {α:Type} {l p r:List α} {x:α} (h:l=p++x::r) (hl:l.length<4611686018427387904):
  decide ((p.length:Int)<(l.length:Int))=true/\af l (p.length:Int)=some x/\su .i64 ((p.length:Int)+1)=((p++[x]).length:Int)/\l=(p++[x])++r:=by
 subst h
 rw [List.length_append,aq5] at hl
 refine ⟨decide_eq_true (by grind), ?_, ?_,by simp⟩
 all_goals grind [af,su,IntKind.bits]
theorem akb {α:Type} {l p:List α} (h:l=p++[]):decide ((p.length:Int)<(l.length:Int))=false:=by
 grind
theorem amr {n m:Nat} (h:n<m): ∃q,m=q+1/\n<=q:=⟨m-1,by omega,by omega⟩
theorem fN {S:Type} (p:Prop) [Decidable p] (h:p) (f:Unit->OS S):asP (bR p) f=f ():=by simp [bR,h]
theorem pU {α:Type} (l:List α) (i:Nat):af l (i:Int)=l[i]? :=by rfl
end Go.Proofs.YtgmmefmmnakbpaaGreatDoor
namespace Go.Proofs.YtgmmefmmnakbpaaGreatDoor
open Go PI
set_option maxRecDepth 100000
noncomputable section
variable {S:Type}
def aub (k:Nat) (kind:Int) (kids:LT) (I:Int×Int×BA×LT->OS S):OS S:=I (kind,0,alH,kids)
def gI (k:Nat) (kind kid:Int) (I:Int×Int->OS S):OS S:=ab (kind==4) (ab (kid==1) (I (1,0)) (I (0,0))) (ab (kind==7) (ab (kid==1) (I (1,0)) (I (0,0))) (ab (kind==5) (ab (kid==0) (I (1,0)) (I (0,0))) (ab (kind==22) (ab (kid==0) (I (1,0)) (I (0,0))) (ab (kind==27) (ab (kid==0) (I (1,0)) (I (0,0))) (ab (kind==11) (ab (kid==0) (I (0,1)) (I (0,0))) (ab (kind==12) (ab (kid==0) (I (0,1)) (I (0,0))) (ab (kind==14) (ab (kid==0) (I (0,1)) (I (0,0))) (I (0,0)))))))))
abbrev du (S:Type):=Tm->Int->(Bool->OS S)->OS S
def uk (hd:du S) (k:Nat) (a_k:Tm) (p h c0:Int) (I:Bool->OS S):OS S:=hd (ac a_k) (su .i64 (c0-1)) fun r1=>I r1
def yi (hd:du S) (k:Nat) (I:Bool->OS S) (c0:Int) (t:Tm) (v42:Int) (x4:(Br Tm)) (h:Int) (j:Int->Int->OS S) (q:Int->OS S) (v49:Int):OS S:=ab (decide ((v49:Int)<(x4.kids.length:Int))) (asP (af x4.kids v49) fun x5=>aa k (uk hd k (ac x5) 0 h c0) fun x=>ab (!x) (I false) (q (su .i64 (v49+1)))) (j (su .i64 (v42+1)) h)
def anh (hd:du S) (k:Nat) (I:Bool->OS S) (j:Int->Int->OS S) (c0:Int) (t:Tm) (v42:Int) (x4:(Br Tm)) (h:Int):Nat->Int->OS S
 |0=>fun _=> .none
 |m+1=>fun v49=>yi hd k I c0 t v42 x4 h j (anh hd k I j c0 t v42 x4 h m) v49
def tp (hd:du S) (k:Nat) (I:Bool->OS S) (c0:Int) (t:Tm) (J2:Int->(Br Tm)->Int->Int->OS S) (j:Int->Int->OS S) (v42 h:Int):OS S:=ab (decide ((v42:Int)<(t.sys.length:Int))) (asP (af t.sys v42) fun x4=>J2 v42 x4 h 0) (I true)
def jp (hd:du S) (k:Nat) (I:Bool->OS S) (c0:Int) (t:Tm):Nat->Int->Int->OS S
 |0=>fun _ _=> .none
 |m+1=>fun v42 h=>tp hd k I c0 t (fun v42 x4 h v49=>anh hd k I (jp hd k I c0 t m) c0 t v42 x4 h k v49) (jp hd k I c0 t m) v42 h
def tn (hd:du S) (k:Nat) (I:Bool->OS S) (c0:Int) (t:Tm) (J1:Int->Int->OS S) (h:Int->OS S) (v17:Int):OS S:=ab (decide ((v17:Int)<(t.kids.length:Int))) (asP (af t.kids v17) fun x1=>aa k (gI k t.kind v17) fun j=>aa k (uk hd k (ac x1) j.1 j.2 c0) fun q=>ab (!q) (I false) (h (su .i64 (v17+1)))) (ab (t.kind==15) (J1 0 1) (J1 0 0))
def qS (hd:du S) (k:Nat) (I:Bool->OS S) (c0:Int) (t:Tm):Nat->Int->OS S
 |0=>fun _=> .none
 |m+1=>fun v17=>tn hd k I c0 t (fun v42 h=>jp hd k I c0 t k v42 h) (qS hd k I c0 t m) v17
def IV (hd:du S) (k:Nat) (I:Bool->OS S) (J0:Int->OS S) (t:Tm) (c0:Int):OS S:=J0 0
def DX (hd:du S) (k:Nat) (t:Tm) (c0:Int) (I:Bool->OS S):OS S:=IV hd k I (fun v17=>qS hd k I c0 t k v17) t c0
def TV (hd:du S) (k:Nat) (I:Bool->OS S) (t:Tm) (left:Int):OS S:=ab (decide ((left:Int)>0)) (aa k (DX hd k (ac t) left) fun r1=>I r1) (I false)
def jf:Nat->Tm->Int->(Bool->OS S)->OS S
 |0=>fun _ _ _=> .none
 |k+1=>fun t left I=>TV (jf k) k I t left
abbrev dt (S:Type):=Tm->Int->(Bool×Int->OS S)->OS S
def pB (hd:dt S) (k:Nat) (t:Tm) (c0:Int) (I:Bool×Int->OS S):OS S:=ab (decide ((su .i64 (c0-1):Int)>=0)) (hd (ac t) (su .i64 (c0-1)) fun r1=>I (r1.1,r1.2)) (I (false,su .i64 (c0-1)))
def ul (hd:dt S) (k:Nat) (a_k:Tm) (p h c1:Int) (I:Bool×Int->OS S):OS S:=aa k (pB hd k (ac a_k) c1) fun r1=>I (r1.1,r1.2)
def yg (hd:dt S) (k:Nat) (I:Bool×Int->OS S) (t:Tm) (v42:Int) (x4:(Br Tm)) (h:Int) (j:Int->Int->Int->OS S) (q:Int->Int->OS S) (e1_0'' v49:Int):OS S:=ab (decide ((v49:Int)<(x4.kids.length:Int))) (asP (af x4.kids v49) fun x5=>aa k (ul hd k (ac x5) 0 h e1_0'') fun x=>ab (!x.1) (I (false,x.2)) (q x.2 (su .i64 (v49+1)))) (j e1_0'' (su .i64 (v42+1)) h)
def kL (hd:dt S) (k:Nat) (I:Bool×Int->OS S) (j:Int->Int->Int->OS S) (t:Tm) (v42:Int) (x4:(Br Tm)) (h:Int):Nat->Int->Int->OS S
 |0=>fun _ _=> .none
 |m+1=>fun e1_0'' v49=>yg hd k I t v42 x4 h j (kL hd k I j t v42 x4 h m) e1_0'' v49
def tj (hd:dt S) (k:Nat) (I:Bool×Int->OS S) (t:Tm) (J2:Int->(Br Tm)->Int->Int->Int->OS S) (j:Int->Int->Int->OS S) (e1_0' v42 h:Int):OS S:=ab (decide ((v42:Int)<(t.sys.length:Int))) (asP (af t.sys v42) fun x4=>J2 v42 x4 h e1_0' 0) (I (true,e1_0'))
def atY (hd:dt S) (k:Nat) (I:Bool×Int->OS S) (t:Tm):Nat->Int->Int->Int->OS S
 |0=>fun _ _ _=> .none
 |m+1=>fun e1_0' v42 h=>tj hd k I t (fun v42 x4 h e1_0'' v49=>kL hd k I (atY hd k I t m) t v42 x4 h k e1_0'' v49) (atY hd k I t m) e1_0' v42 h
def ti (hd:dt S) (k:Nat) (I:Bool×Int->OS S) (t:Tm) (J1:Int->Int->Int->OS S) (h:Int->Int->OS S) (arm v17:Int):OS S:=ab (decide ((v17:Int)<(t.kids.length:Int))) (asP (af t.kids v17) fun x1=>aa k (gI k t.kind v17) fun q=>aa k (ul hd k (ac x1) q.1 q.2 arm) fun j=>ab (!j.1) (I (false,j.2)) (h j.2 (su .i64 (v17+1)))) (ab (t.kind==15) (J1 arm 0 1) (J1 arm 0 0))
def nY (hd:dt S) (k:Nat) (I:Bool×Int->OS S) (t:Tm):Nat->Int->Int->OS S
 |0=>fun _ _=> .none
 |m+1=>fun arm v17=>ti hd k I t (fun e1_0' v42 h=>atY hd k I t k e1_0' v42 h) (nY hd k I t m) arm v17
def IT (hd:dt S) (k:Nat) (I:Bool×Int->OS S) (J0:Int->Int->OS S) (t:Tm) (c1:Int):OS S:=J0 c1 0
def atf:Nat->Tm->Int->(Bool×Int->OS S)->OS S
 |0=>fun _ _ _=> .none
 |k+1=>fun t c1 I=>IT (atf k) k I (fun arm v17=>nY (atf k) k I t k arm v17) t c1
def zE (k:Nat) (t:Tm) (most:Int) (I:Bool->OS S):OS S:=aa k (pB (atf k) k (ac t) most) fun r1=>I r1.1
def zD (k:Nat) (t:Tm) (I:Int->OS S):OS S:=jf k (ac t) 200 fun r1=>ab (!r1) (I 62) (aa k (zE k (ac t) 20000) fun h=>ab (!h) (I 221) (I 0))
def zA (k:Nat) (kind:Int) (I:Int->OS S):OS S:=ab (kind==1) (I 0) (ab (kind==2) (I 0) (ab (kind==3) (I 0) (ab (kind==19) (I 0) (ab (kind==20) (I 0) (ab (kind==24) (I 0) (ab (kind==25) (I 0) (ab (kind==21) (I 0) (ab (kind==5) (I 1) (ab (kind==9) (I 1) (ab (kind==10) (I 1) (ab (kind==23) (I 1) (ab (kind==12) (I 1) (ab (kind==16) (I 1) (ab (kind==17) (I 1) (ab (kind==18) (I 1) (ab (kind==26) (I 1) (ab (kind==4) (I 2) (ab (kind==7) (I 2) (ab (kind==6) (I 2) (ab (kind==8) (I 2) (ab (kind==14) (I 2) (ab (kind==15) (I 2) (ab (kind==28) (I 2) (ab (kind==11) (I 3) (ab (kind==13) (I 3) (ab (kind==22) (I 4) (ab (kind==27) (I 5) (I (-1)))))))))))))))))))))))))))))
def lJ (k:Nat) (kind:Int) (I:Int->OS S):OS S:=ab (kind==15) (I 1) (ab (kind==17) (I 1) (ab (kind==18) (I 1) (ab (kind==16) (I 2) (I 0))))
def Dk (k:Nat) (I:Bool->OS S) (s:BA) (q:Int) (x1:UInt8) (j:Int->OS S) (h:Bool):OS S:=ab (!h) (ab (q==0) (I false) (ab (decide (((x1.toNat:Int):Int)<48)) (I false) (ab (decide (((x1.toNat:Int):Int)>57)) (I false) (j (su .i64 (q+1)))))) (j (su .i64 (q+1)))
def Aq (k:Nat) (I:Bool->OS S) (j:Int->OS S) (s:BA) (q:Int) (x1:UInt8):Nat->Bool->OS S
 |0=>fun _=> .none
 |_+1=>fun h=>Dk k I s q x1 j h
def tv (k:Nat) (I:Bool->OS S) (s:BA) (J1:Int->UInt8->Bool->OS S) (j:Int->OS S) (h:Int):OS S:=ab (decide ((h:Int)<(s.size:Int))) (asP (af s.data.toList h) fun x1=>ab (decide (((x1.toNat:Int):Int)>=97)) (ab (decide (((x1.toNat:Int):Int)<=122)) (J1 h x1 true) (ab (decide (((x1.toNat:Int):Int)>=65)) (ab (decide (((x1.toNat:Int):Int)<=90)) (J1 h x1 true) (J1 h x1 ((x1.toNat:Int)==95))) (J1 h x1 ((x1.toNat:Int)==95)))) (ab (decide (((x1.toNat:Int):Int)>=65)) (ab (decide (((x1.toNat:Int):Int)<=90)) (J1 h x1 true) (J1 h x1 ((x1.toNat:Int)==95))) (J1 h x1 ((x1.toNat:Int)==95)))) (I (!(s==alH)))
def n7 (k:Nat) (I:Bool->OS S) (s:BA):Nat->Int->OS S
 |0=>fun _=> .none
 |m+1=>fun j=>tv k I s (fun j x1 h=>Aq k I (n7 k I s m) s j x1 k h) (n7 k I s m) j
def IY (k:Nat) (I:Bool->OS S) (J0:Int->OS S) (s:BA):OS S:=J0 0
def zC (k:Nat) (s:BA) (I:Bool->OS S):OS S:=IY k I (fun h=>n7 k I s k h) s
def pm (k:Nat) (s:Int) (I:Bool->OS S):OS S:=I ((bj .andNot .u32 s 16777215)==0)
def tC (k:Nat) (c:Cl) (I:Bool->OS S):OS S:=aa k (pm k c.pos) fun r1=>ab (r1) (aa k (pm k c.neg) fun h=>I h) (I false)
def pb (k:Nat) (a b:Cl) (I:Cl->OS S):OS S:=I (Cl.mk (bj .or .u32 a.pos b.pos) (bj .or .u32 a.neg b.neg))
def yA (k:Nat) (a b:Cl) (I:Bool->OS S):OS S:=aa k (pb k a b) fun r1=>I ((r1.pos==a.pos)&&((r1.neg==a.neg)&&true))
def yC (k:Nat) (d c0:Cl) (I:Bool->OS S):OS S:=ab (!((c0.pos==d.pos)&&((c0.neg==d.neg)&&true))) (aa k (yA k c0 d) fun r1=>I r1) (I false)
def yc (k:Nat) (I:Int->OS S) (c0:Cl) (s:LC) (h:Int->OS S) (j:Int):OS S:=ab (decide ((j:Int)<(s.length:Int))) (asP (af s j) fun x1=>aa k (yC k x1 c0) fun q=>ab (q) (I j) (h (su .i64 (j+1)))) (I (-1))
def qO (k:Nat) (I:Int->OS S) (c0:Cl) (s:LC):Nat->Int->OS S
 |0=>fun _=> .none
 |m+1=>fun h=>yc k I c0 s (qO k I c0 s m) h
def IM (k:Nat) (I:Int->OS S) (J0:Int->OS S) (s:LC) (c0:Cl):OS S:=J0 0
def DV (k:Nat) (s:LC) (c0:Cl) (I:Int->OS S):OS S:=IM k I (fun h=>qO k I c0 s k h) s c0
def DT (k:Nat) (s:LC) (c0:Cl) (I:Bool->OS S):OS S:=aa k (DV k s c0) fun r1=>I (decide ((r1:Int)>=0))
def yB (k:Nat) (c:Cl) (c0:LC) (I:Bool->OS S):OS S:=aa k (DT k c0 c) fun r1=>I r1
def wM (k:Nat) (I:LC×Int->OS S) (j:LC) (q:Int->(LC)->OS S) (v36:Int) (h:LC):OS S:=ab (decide ((v36:Int)<(j.length:Int))) (asP (af j v36) fun x4=>aa k (yB k x4 j) fun x=>ab (!x) (asP (aw 1099511627776 h.length [x4].length) fun x6=>q (su .i64 (v36+1)) (h++[x4])) (q (su .i64 (v36+1)) h)) (ab (decide (((h.length:Int):Int)>64)) (I (([]:LC),3)) (I (sortCl h,0)))
def nz (k:Nat) (I:LC×Int->OS S) (h:LC):Nat->Int->(LC)->OS S
 |0=>fun _ _=> .none
 |m+1=>fun v36 j=>wM k I h (nz k I h m) v36 j
def awk (k:Nat) (I:LC×Int->OS S) (l:LC) (J1:(LC)->Int->(LC)->OS S) (q:(List (Cl×Bool))->(LC)->Int->OS S) (x:List (Cl×Bool)) (h:LC) (j:Int):OS S:=ab (decide ((j:Int)<(l.length:Int))) (asP (af l j) fun x1=>aa k (tC k x1) fun z=>ab (!z) (I (([]:LC),2)) (ab (!((dW VV ET.C x x1).getD false)) (asP (aw 1099511627776 h.length [x1].length) fun x3=>q (fz VV ET.C x x1 true) (h++[x1]) (su .i64 (j+1))) (q x h (su .i64 (j+1))))) (J1 h 0 ([]:LC))
def pZ (k:Nat) (I:LC×Int->OS S) (l:LC):Nat->(List (Cl×Bool))->(LC)->Int->OS S
 |0=>fun _ _ _=> .none
 |m+1=>fun q h x=>awk k I l (fun h v36 j=>nz k I h k v36 j) (pZ k I l m) q h x
def Hw (k:Nat) (I:LC×Int->OS S) (J0:(List (Cl×Bool))->(LC)->Int->OS S) (l:LC):OS S:=J0 ([]:List (Cl×Bool)) ([]:LC) 0
def gy (k:Nat) (l:LC) (I:LC×Int->OS S):OS S:=Hw k I (fun j h q=>pZ k I l k j h q) l
def yb (k:Nat) (I:Bool->OS S) (s1 s2:LC) (j:Int->OS S) (h:Int):OS S:=ab (decide ((h:Int)<(s1.length:Int))) (asP (af s1 h) fun x1=>asP (af s2 h) fun x2=>ab (!((x1.pos==x2.pos)&&((x1.neg==x2.neg)&&true))) (I false) (j (su .i64 (h+1)))) (I true)
def qN (k:Nat) (I:Bool->OS S) (s1 s2:LC):Nat->Int->OS S
 |0=>fun _=> .none
 |m+1=>fun h=>yb k I s1 s2 (qN k I s1 s2 m) h
def IL (k:Nat) (I:Bool->OS S) (J0:Int->OS S) (s1 s2:LC):OS S:=ab (!((s1.length:Int)==(s2.length:Int))) (I false) (J0 0)
def zz (k:Nat) (s1 s2:LC) (I:Bool->OS S):OS S:=IL k I (fun h=>qN k I s1 s2 k h) s1 s2
def hY (k:Nat) (f:LC) (I:Bool->OS S):OS S:=aa k (gy k f) fun r1=>ab (r1.2==0) (aa k (zz k r1.1 f) fun h=>I h) (I false)
def nd (k:Nat) (i:Int) (I:Bool->OS S):OS S:=ab (decide ((i:Int)>=0)) (I (decide ((i:Int)<24))) (I false)
def jX (k:Nat) (s i:Int) (I:Int->OS S):OS S:=aa k (nd k i) fun r1=>ab (!r1) (I (bj .and .u32 s 16777215)) (asP (bR (0<=(su .u64 i))) fun x2=>I (bj .andNot .u32 (bj .and .u32 s 16777215) (su .u32 (1*2^min (arM (su .u64 i)) 32))))
def wY (k:Nat) (I:Int->OS S) (f:LC) (h:Int->Int->OS S) (q j:Int):OS S:=ab (decide ((j:Int)<(f.length:Int))) (asP (af f j) fun x1=>h (bj .or .u32 q (bj .or .u32 x1.pos x1.neg)) (su .i64 (j+1))) (aa k (jX k q (-1)) fun x=>I x)
def qb (k:Nat) (I:Int->OS S) (f:LC):Nat->Int->Int->OS S
 |0=>fun _ _=> .none
 |m+1=>fun h j=>wY k I f (qb k I f m) h j
def HL (k:Nat) (I:Int->OS S) (J0:Int->Int->OS S) (f:LC):OS S:=J0 0 0
def jc (k:Nat) (f:LC) (I:Int->OS S):OS S:=HL k I (fun h j=>qb k I f k h j) f
def lK (k:Nat) (f:LC) (dims:Int) (I:Bool->OS S):OS S:=ab (decide ((dims:Int)>=24)) (I true) (aa k (jc k f) fun r1=>asP (bR (0<=(su .u64 dims))) fun x2=>I ((Int.fdiv r1 (2^min (arM (su .u64 dims)) 32))==0))
def tB (k:Nat) (c:Cl) (I:Bool->OS S):OS S:=I (!((bj .and .u32 c.pos c.neg)==0))
def yd (k:Nat) (I:Int->OS S) (s:LC) (h:Int->OS S) (j:Int):OS S:=ab (decide ((j:Int)<(s.length:Int))) (asP (af s j) fun x1=>aa k (tB k x1) fun q=>ab (q) (I j) (h (su .i64 (j+1)))) (I (-1))
def qP (k:Nat) (I:Int->OS S) (s:LC):Nat->Int->OS S
 |0=>fun _=> .none
 |m+1=>fun h=>yd k I s (qP k I s m) h
def IN (k:Nat) (I:Int->OS S) (J0:Int->OS S) (s:LC):OS S:=J0 0
def DW (k:Nat) (s:LC) (I:Int->OS S):OS S:=IN k I (fun h=>qP k I s k h) s
def DU (k:Nat) (s:LC) (I:Bool->OS S):OS S:=aa k (DW k s) fun r1=>I (decide ((r1:Int)>=0))
def pd (k:Nat) (f:LC) (I:Bool->OS S):OS S:=aa k (hY k f) fun r1=>ab (r1) (aa k (DU k f) fun h=>I (!h)) (I false)
def yl (k:Nat) (I:Bool->OS S) (t:Tm) (dims:Int) (j:Int->OS S) (v109:Int):OS S:=ab (decide ((v109:Int)<(t.sys.length:Int))) (asP (af t.sys v109) fun h=>aa k (lJ k t.kind) fun r13=>ab (!((h.kids.length:Int)==r13)) (I false) (aa k (pd k h.face) fun r14=>ab (!r14) (I false) (aa k (lK k h.face dims) fun q=>ab (!q) (I false) (j (su .i64 (v109+1)))))) (I ((t.r.length:Int)==0))
def kO (k:Nat) (I:Bool->OS S) (t:Tm) (dims:Int):Nat->Int->OS S
 |0=>fun _=> .none
 |m+1=>fun v109=>yl k I t dims (kO k I t dims m) v109
def tw (k:Nat) (I:Bool->OS S) (t:Tm) (vars dims:Int) (J1:Int->OS S):OS S:=ab (t.kind==1) (ab ((t.r.length:Int)==0) (ab (decide ((t.n:Int)>=0)) (ab (decide ((vars:Int)<0)) (I true) (I (decide ((t.n:Int)<vars)))) (I false)) (I false)) (ab (t.kind==2) (ab ((t.r.length:Int)==0) (aa k (zC k t.name) fun q=>I q) (I false)) (ab (t.kind==13) (aa k (hY k t.r) fun x=>ab (x) (aa k (lK k t.r dims) fun z=>I z) (I false)) (ab (t.kind==21) (aa k (hY k t.r) fun A=>ab (A) (aa k (lK k t.r dims) fun B=>I B) (I false)) (ab (t.kind==26) (aa k (hY k t.r) fun E=>ab (E) (aa k (lK k t.r dims) fun F=>I F) (I false)) (ab (t.kind==14) (aa k (pd k t.r) fun h=>ab (h) (aa k (lK k t.r dims) fun j=>I j) (I false)) (J1 0))))))
def Ar (k:Nat) (I:Bool->OS S) (t:Tm) (vars dims:Int):Nat->OS S
 |0=> .none
 |_+1=>tw k I t vars dims (fun v109=>kO k I t dims k v109)
def IZ (k:Nat) (I:Bool->OS S) (J0:OS S) (t:Tm) (vars dims:Int):OS S:=aa k (zA k t.kind) fun r1=>ab (!(r1==(t.kids.length:Int))) (I false) (ab (!(t.kind==1)) (ab (!(t.n==0)) (I false) (ab (!(t.kind==2)) (ab (!(t.name==alH)) (I false) (aa k (lJ k t.kind) fun x=>ab (x==0) (ab (decide (((t.sys.length:Int):Int)>0)) (I false) (J0)) (J0))) (aa k (lJ k t.kind) fun h=>ab (h==0) (ab (decide (((t.sys.length:Int):Int)>0)) (I false) (J0)) (J0)))) (ab (!(t.kind==2)) (ab (!(t.name==alH)) (I false) (aa k (lJ k t.kind) fun j=>ab (j==0) (ab (decide (((t.sys.length:Int):Int)>0)) (I false) (J0)) (J0))) (aa k (lJ k t.kind) fun q=>ab (q==0) (ab (decide (((t.sys.length:Int):Int)>0)) (I false) (J0)) (J0))))
def uj (k:Nat) (t:Tm) (vars dims:Int) (I:Bool->OS S):OS S:=IZ k I (Ar k I t vars dims k) t vars dims
abbrev dr (S:Type):=Tm->Int->Int->Bool->(Bool->OS S)->OS S
def uh (hd:dr S) (k:Nat) (a_k:Tm) (v d c0 c1:Int) (c2:Bool) (I:Bool->OS S):OS S:=ab (decide ((c0:Int)<0)) (hd (ac a_k) (su .i64 (c0+0)) (su .i64 (c1+d)) c2 fun r1=>I r1) (hd (ac a_k) (su .i64 (c0+v)) (su .i64 (c1+d)) c2 fun h=>I h)
def yh (hd:dr S) (k:Nat) (I:Bool->OS S) (c0 c1:Int) (c2:Bool) (t:Tm) (v42:Int) (x4:(Br Tm)) (h:Int) (j:Int->Int->OS S) (q:Int->OS S) (v49:Int):OS S:=ab (decide ((v49:Int)<(x4.kids.length:Int))) (asP (af x4.kids v49) fun x5=>aa k (uh hd k (ac x5) 0 h c0 c1 c2) fun x=>ab (!x) (I false) (q (su .i64 (v49+1)))) (j (su .i64 (v42+1)) h)
def mi (hd:dr S) (k:Nat) (I:Bool->OS S) (j:Int->Int->OS S) (c0 c1:Int) (c2:Bool) (t:Tm) (v42:Int) (x4:(Br Tm)) (h:Int):Nat->Int->OS S
 |0=>fun _=> .none
 |m+1=>fun v49=>yh hd k I c0 c1 c2 t v42 x4 h j (mi hd k I j c0 c1 c2 t v42 x4 h m) v49
def tl (hd:dr S) (k:Nat) (I:Bool->OS S) (c0 c1:Int) (c2:Bool) (t:Tm) (J2:Int->(Br Tm)->Int->Int->OS S) (j:Int->Int->OS S) (v42 h:Int):OS S:=ab (decide ((v42:Int)<(t.sys.length:Int))) (asP (af t.sys v42) fun x4=>J2 v42 x4 h 0) (I true)
def iC (hd:dr S) (k:Nat) (I:Bool->OS S) (c0 c1:Int) (c2:Bool) (t:Tm):Nat->Int->Int->OS S
 |0=>fun _ _=> .none
 |m+1=>fun v42 h=>tl hd k I c0 c1 c2 t (fun v42 x4 h v49=>mi hd k I (iC hd k I c0 c1 c2 t m) c0 c1 c2 t v42 x4 h k v49) (iC hd k I c0 c1 c2 t m) v42 h
def tk (hd:dr S) (k:Nat) (I:Bool->OS S) (c0 c1:Int) (c2:Bool) (t:Tm) (J1:Int->Int->OS S) (h:Int->OS S) (v17:Int):OS S:=ab (decide ((v17:Int)<(t.kids.length:Int))) (asP (af t.kids v17) fun x1=>aa k (gI k t.kind v17) fun j=>aa k (uh hd k (ac x1) j.1 j.2 c0 c1 c2) fun q=>ab (!q) (I false) (h (su .i64 (v17+1)))) (ab (t.kind==15) (J1 0 1) (J1 0 0))
def nZ (hd:dr S) (k:Nat) (I:Bool->OS S) (c0 c1:Int) (c2:Bool) (t:Tm):Nat->Int->OS S
 |0=>fun _=> .none
 |m+1=>fun v17=>tk hd k I c0 c1 c2 t (fun v42 h=>iC hd k I c0 c1 c2 t k v42 h) (nZ hd k I c0 c1 c2 t m) v17
def IU (hd:dr S) (k:Nat) (I:Bool->OS S) (J0:Int->OS S) (t:Tm) (c0 c1:Int) (c2:Bool):OS S:=J0 0
def zB (hd:dr S) (k:Nat) (t:Tm) (c0 c1:Int) (c2:Bool) (I:Bool->OS S):OS S:=IU hd k I (fun v17=>nZ hd k I c0 c1 c2 t k v17) t c0 c1 c2
def TT (hd:dr S) (k:Nat) (I:Bool->OS S) (t:Tm) (vars dims:Int) (bound:Bool):OS S:=ab (bound) (ab (decide ((dims:Int)>24)) (I false) (aa k (uj k (ac t) vars dims) fun r1=>ab (!r1) (I false) (aa k (zB hd k (ac t) vars dims bound) fun h=>I h))) (aa k (uj k (ac t) vars dims) fun j=>ab (!j) (I false) (aa k (zB hd k (ac t) vars dims bound) fun q=>I q))
def ic:Nat->Tm->Int->Int->Bool->(Bool->OS S)->OS S
 |0=>fun _ _ _ _ _=> .none
 |k+1=>fun t vars dims bound I=>TT (ic k) k I t vars dims bound
def asi (k:Nat) (t:Tm) (I:Int->OS S):OS S:=aa k (zD k (ac t)) fun r1=>ab (!(r1==0)) (I r1) (ic k (ac t) (-1) 24 false fun h=>ab (!h) (I 100) (I 0))
abbrev eP (S:Type):=Tm->(Tm->OS S)->OS S
def yf (hd:eP S) (k:Nat) (I:LT->OS S) (l:LT) (j:(LT)->Int->OS S) (h:LT) (q:Int):OS S:=ab (decide ((q:Int)<(l.length:Int))) (asP (af l q) fun x1=>hd (ac x1) fun x=>asP (aw 1099511627776 h.length [(ac x)].length) fun x3=>j (h++[(ac x)]) (su .i64 (q+1))) (I h)
def av5 (hd:eP S) (k:Nat) (I:LT->OS S) (l:LT):Nat->(LT)->Int->OS S
 |0=>fun _ _=> .none
 |m+1=>fun h j=>yf hd k I l (av5 hd k I l m) h j
def IS (hd:eP S) (k:Nat) (I:LT->OS S) (J0:(LT)->Int->OS S) (l:LT):OS S:=J0 ([]:LT) 0
def ui (hd:eP S) (k:Nat) (l:LT) (I:LT->OS S):OS S:=IS hd k I (fun h j=>av5 hd k I l k h j) l
def ye (hd:eP S) (k:Nat) (I:Tm->OS S) (t:Tm) (r1:LC) (r2:LT) (j:(LB)->Int->OS S) (h:LB) (v22:Int):OS S:=ab (decide ((v22:Int)<(t.sys.length:Int))) (asP (af t.sys v22) fun x3=>rj x3.face fun q=>aa k (ui hd k x3.kids) fun x=>asP (aw 1099511627776 h.length [(Br.mk q x)].length) fun x6=>j (h++[(Br.mk q x)]) (su .i64 (v22+1))) (I (Tm.mk t.kind t.n t.name r1 r2 h))
def qQ (hd:eP S) (k:Nat) (I:Tm->OS S) (t:Tm) (r1:LC) (r2:LT):Nat->(LB)->Int->OS S
 |0=>fun _ _=> .none
 |m+1=>fun h v22=>ye hd k I t r1 r2 (qQ hd k I t r1 r2 m) h v22
def IP (hd:eP S) (k:Nat) (I:Tm->OS S) (J0:(LC)->(LT)->(LB)->Int->OS S) (t:Tm):OS S:=rj t.r fun r1=>aa k (ui hd k t.kids) fun h=>J0 r1 h ([]:LB) 0
def dJ:Nat->Tm->(Tm->OS S)->OS S
 |0=>fun _ _=> .none
 |k+1=>fun t I=>IP (dJ k) k I (fun r1 j h v22=>qQ (dJ k) k I t r1 j k h v22) t
def dG (k:Nat) (c0:Int) (I:Bool->OS S):OS S:=I (c0==0)
abbrev dq (S:Type):=Tm->(Int->OS S)->OS S
def ug (hd:dq S) (k:Nat) (a_k:Tm) (p h c0:Int) (I:Bool×Int->OS S):OS S:=hd (ac a_k) fun r1=>I (true,su .i64 (c0+r1))
def yj (hd:dq S) (k:Nat) (I:Bool×Int->OS S) (t:Tm) (v42:Int) (x4:(Br Tm)) (h:Int) (j:Int->Int->Int->OS S) (q:Int->Int->OS S) (e0_0'' v49:Int):OS S:=ab (decide ((v49:Int)<(x4.kids.length:Int))) (asP (af x4.kids v49) fun x5=>aa k (ug hd k (ac x5) 0 h e0_0'') fun x=>ab (!x.1) (I (false,x.2)) (q x.2 (su .i64 (v49+1)))) (j e0_0'' (su .i64 (v42+1)) h)
def n4 (hd:dq S) (k:Nat) (I:Bool×Int->OS S) (j:Int->Int->Int->OS S) (t:Tm) (v42:Int) (x4:(Br Tm)) (h:Int):Nat->Int->Int->OS S
 |0=>fun _ _=> .none
 |m+1=>fun e0_0'' v49=>yj hd k I t v42 x4 h j (n4 hd k I j t v42 x4 h m) e0_0'' v49
def tr (hd:dq S) (k:Nat) (I:Bool×Int->OS S) (t:Tm) (J2:Int->(Br Tm)->Int->Int->Int->OS S) (j:Int->Int->Int->OS S) (e0_0' v42 h:Int):OS S:=ab (decide ((v42:Int)<(t.sys.length:Int))) (asP (af t.sys v42) fun x4=>J2 v42 x4 h e0_0' 0) (I (true,e0_0'))
def kM (hd:dq S) (k:Nat) (I:Bool×Int->OS S) (t:Tm):Nat->Int->Int->Int->OS S
 |0=>fun _ _ _=> .none
 |m+1=>fun e0_0' v42 h=>tr hd k I t (fun v42 x4 h e0_0'' v49=>n4 hd k I (kM hd k I t m) t v42 x4 h k e0_0'' v49) (kM hd k I t m) e0_0' v42 h
def tq (hd:dq S) (k:Nat) (I:Bool×Int->OS S) (t:Tm) (J1:Int->Int->Int->OS S) (j:Int->Int->OS S) (h v17:Int):OS S:=ab (decide ((v17:Int)<(t.kids.length:Int))) (asP (af t.kids v17) fun x1=>aa k (gI k t.kind v17) fun x=>aa k (ug hd k (ac x1) x.1 x.2 h) fun q=>ab (!q.1) (I (false,q.2)) (j q.2 (su .i64 (v17+1)))) (ab (t.kind==15) (J1 h 0 1) (J1 h 0 0))
def av6 (hd:dq S) (k:Nat) (I:Bool×Int->OS S) (t:Tm):Nat->Int->Int->OS S
 |0=>fun _ _=> .none
 |m+1=>fun j v17=>tq hd k I t (fun e0_0' v42 h=>kM hd k I t k e0_0' v42 h) (av6 hd k I t m) j v17
def IW (hd:dq S) (k:Nat) (I:Bool×Int->OS S) (J0:Int->Int->OS S) (t:Tm) (c0:Int):OS S:=J0 c0 0
def DY (hd:dq S) (k:Nat) (t:Tm) (c0:Int) (I:Bool×Int->OS S):OS S:=IW hd k I (fun h v17=>av6 hd k I t k h v17) t c0
def TS (hd:dq S) (k:Nat) (I:Int->OS S) (t:Tm):OS S:=aa k (DY hd k (ac t) 1) fun r1=>I r1.2
def j6:Nat->Tm->(Int->OS S)->OS S
 |0=>fun _ _=> .none
 |k+1=>fun t I=>TS (j6 k) k I t
abbrev fK (S:Type):=Tm->Int->(Int->OS S)->OS S
def xh (hd:fK S) (k:Nat) (I:Int->OS S) (a_n:Int) (t:Tm) (v49:Int) (x4:(Br Tm)) (q:Int->Int->OS S) (x:Int->Int->OS S) (h j:Int):OS S:=ab (decide ((j:Int)<(x4.kids.length:Int))) (asP (af x4.kids j) fun x5=>hd (ac x5) a_n fun z=>x (su .i64 (h+z)) (su .i64 (j+1))) (q (su .i64 (v49+1)) h)
def nG (hd:fK S) (k:Nat) (I:Int->OS S) (j:Int->Int->OS S) (a_n:Int) (t:Tm) (v49:Int) (x4:(Br Tm)):Nat->Int->Int->OS S
 |0=>fun _ _=> .none
 |m+1=>fun h q=>xh hd k I a_n t v49 x4 j (nG hd k I j a_n t v49 x4 m) h q
def sE (hd:fK S) (k:Nat) (I:Int->OS S) (a_n:Int) (t:Tm) (J3:Int->(Br Tm)->Int->Int->OS S) (j:Int->Int->OS S) (v49 h:Int):OS S:=ab (decide ((v49:Int)<(t.sys.length:Int))) (asP (af t.sys v49) fun x4=>J3 v49 x4 h 0) (I h)
def ku (hd:fK S) (k:Nat) (I:Int->OS S) (a_n:Int) (t:Tm):Nat->Int->Int->OS S
 |0=>fun _ _=> .none
 |m+1=>fun v49 j=>sE hd k I a_n t (fun v49 x4 h q=>nG hd k I (ku hd k I a_n t m) a_n t v49 x4 k h q) (ku hd k I a_n t m) v49 j
def sD (hd:fK S) (k:Nat) (I:Int->OS S) (t:Tm) (a_n:Int) (J2:Int->Int->OS S) (j:Int->Int->OS S) (v26 h:Int):OS S:=ab (decide ((v26:Int)<(t.kids.length:Int))) (asP (af t.kids v26) fun x1=>aa k (gI k t.kind v26) fun q=>hd (ac x1) (su .i64 (a_n+q.1)) fun x=>j (su .i64 (v26+1)) (su .i64 (h+x))) (J2 0 h)
def nF (hd:fK S) (k:Nat) (I:Int->OS S) (t:Tm) (a_n:Int):Nat->Int->Int->OS S
 |0=>fun _ _=> .none
 |m+1=>fun v26 j=>sD hd k I t a_n (fun v49 h=>ku hd k I a_n t k v49 h) (nF hd k I t a_n m) v26 j
def xg (hd:fK S) (k:Nat) (I:Int->OS S) (t:Tm) (a_n:Int) (J1:Int->Int->OS S):OS S:=J1 0 0
def Ak (hd:fK S) (k:Nat) (I:Int->OS S) (t:Tm) (a_n:Int):Nat->OS S
 |0=> .none
 |_+1=>xg hd k I t a_n (fun v26 h=>nF hd k I t a_n k v26 h)
def BU (hd:fK S) (k:Nat) (I:Int->OS S) (J0:OS S) (t:Tm) (a_n:Int):OS S:=ab (t.kind==1) (ab (t.n==a_n) (I 1) (J0)) (J0)
def gz:Nat->Tm->Int->(Int->OS S)->OS S
 |0=>fun _ _ _=> .none
 |k+1=>fun t a_n I=>BU (gz k) k I (Ak (gz k) k I t a_n k) t a_n
def w9 (k:Nat) (I:Int->OS S) (l:List (LC)) (h:Int->OS S) (j:Int):OS S:=ab (decide ((j:Int)<(l.length:Int))) (asP (af l j) fun x1=>aa k (hY k x1) fun q=>ab (!q) (I 2) (h (su .i64 (j+1)))) (I 0)
def qi (k:Nat) (I:Int->OS S) (l:List (LC)):Nat->Int->OS S
 |0=>fun _=> .none
 |m+1=>fun h=>w9 k I l (qi k I l m) h
def HT (k:Nat) (I:Int->OS S) (J0:Int->OS S) (l:List (LC)):OS S:=J0 0
def pi (k:Nat) (l:List (LC)) (I:Int->OS S):OS S:=HT k I (fun h=>qi k I l k h) l
def tK (k:Nat) (I:LC->OS S):OS S:=I ([]:LC)
def pn (k:Nat) (i:Int) (I:Int->OS S):OS S:=asP (bR (0<=(su .u64 (if 24<i then 24 else i)))) fun x1=>I (su .u32 (su .u64 ((su .u64 (1*2^min (arM (su .u64 (if 24<i then 24 else i))) 64))-1)))
def lx (k:Nat) (s a_from a_by:Int) (I:Int×Int->OS S):OS S:=ab (decide ((a_from:Int)<0)) (I (0,2)) (ab (decide ((a_by:Int)<0)) (I (0,2)) (aa k (pn k a_from) fun r1=>aa k (pn k a_from) fun h=>ab ((su .u64 (bj .andNot .u32 (bj .and .u32 s 16777215) h))==0) (I (bj .and .u32 (bj .and .u32 s 16777215) r1,0)) (ab (decide ((a_by:Int)>=24)) (I (0,10)) (asP (bR (0<=(su .u64 a_by))) fun x3=>ab (decide ((su .u64 ((su .u64 (bj .andNot .u32 (bj .and .u32 s 16777215) h))*2^min (arM (su .u64 a_by)) 64):Int)>16777215)) (I (0,10)) (asP (bR (0<=(su .u64 a_by))) fun x4=>I (bj .or .u32 (bj .and .u32 (bj .and .u32 s 16777215) r1) (su .u32 (su .u64 ((su .u64 (bj .andNot .u32 (bj .and .u32 s 16777215) h))*2^min (arM (su .u64 a_by)) 64))),0))))))
def yD (k:Nat) (c:Cl) (a_from a_by:Int) (I:Cl×Int->OS S):OS S:=aa k (tC k c) fun r1=>ab (!r1) (I ((Cl.mk 0 0),2)) (aa k (lx k c.pos a_from a_by) fun h=>ab (!(h.2==0)) (I ((Cl.mk 0 0),h.2)) (aa k (lx k c.neg a_from a_by) fun j=>ab (!(j.2==0)) (I ((Cl.mk 0 0),j.2)) (I ((Cl.mk h.1 j.1),0))))
def DN (k:Nat) (a_have:LC) (c:Cl) (c0 c1:Int) (I:LC×Int->OS S):OS S:=aa k (yD k c c0 c1) fun r1=>asP (aw 1099511627776 a_have.length [r1.1].length) fun x2=>I (a_have++[r1.1],r1.2)
def w6 (k:Nat) (I:LC×Int->OS S) (c0 c1:Int) (l:LC) (j:(LC)->Int->OS S) (v1:LC) (h:Int):OS S:=ab (decide ((h:Int)<(l.length:Int))) (asP (af l h) fun x1=>aa k (DN k v1 x1 c0 c1) fun q=>ab (!(q.2==0)) (I (([]:LC),q.2)) (j q.1 (su .i64 (h+1)))) (I (v1,0))
def qf (k:Nat) (I:LC×Int->OS S) (c0 c1:Int) (l:LC):Nat->(LC)->Int->OS S
 |0=>fun _ _=> .none
 |m+1=>fun v1 h=>w6 k I c0 c1 l (qf k I c0 c1 l m) v1 h
def HQ (k:Nat) (I:LC×Int->OS S) (J0:(LC)->Int->OS S) (l a_from:LC) (c0 c1:Int):OS S:=J0 a_from 0
def yT (k:Nat) (l a_from:LC) (c0 c1:Int) (I:LC×Int->OS S):OS S:=HQ k I (fun v1 h=>qf k I c0 c1 l k v1 h) l a_from c0 c1
def jV (k:Nat) (f:LC) (a_from a_by:Int) (I:LC×Int->OS S):OS S:=aa k (pi k [f]) fun r1=>ab (!(r1==0)) (I (([]:LC),r1)) (aa k (tK k) fun q=>aa k (yT k f q a_from a_by) fun h=>ab (!(h.2==0)) (I (([]:LC),h.2)) (aa k (gy k h.1) fun j=>I (j.1,j.2)))
def tN (k:Nat) (l_0 l_1:Int) (f:LC) (a_from:Int) (I:Pan Int (LC)->OS S):OS S:=ab (l_1==0) (asP (aw 1099511627776 0 f.length) fun x1=>I (.ok f)) (ab (decide ((a_from:Int)>=24)) (asP (aw 1099511627776 0 f.length) fun x2=>I (.ok f)) (aa k (jV k f a_from l_1) fun h=>ab (!(h.2==0)) (I (.pan h.2)) (I (.ok h.1))))
abbrev fJ (S:Type):=Int->Int->Tm->Int->Int->(Pan Int Tm->OS S)->OS S
def xe (hd:fJ S) (k:Nat) (I:Pan Int Tm->OS S) (r12:LC) (l_0 l_1:Int) (t:Tm) (M:Int) (r2:LC) (L:LT) (z:LB) (A:(Br Tm)) (j v d v90:Int) (B:(LB)->Int->Int->OS S) (E:(LT)->Int->OS S) (h:LT) (q:Int):OS S:=ab (decide ((q:Int)<(A.kids.length:Int))) (asP (af A.kids q) fun F=>hd l_0 l_1 (ac F) v (su .i64 (d+j)) fun x=>Pan.elim x (fun x=>asP (aw 1099511627776 h.length [(ac x)].length) fun O=>E (h++[(ac x)]) (su .i64 (q+1))) (fun J=>I (.pan J))) (asP (aw 1099511627776 z.length [(Br.mk r12 h)].length) fun T=>B (z++[(Br.mk r12 h)]) j (su .i64 (v90+1)))
def l7 (hd:fJ S) (k:Nat) (I:Pan Int Tm->OS S) (j:(LB)->Int->Int->OS S) (r12:LC) (l_0 l_1:Int) (t:Tm) (A:Int) (r2:LC) (q:LT) (x:LB) (B:(Br Tm)) (h v d v90:Int):Nat->(LT)->Int->OS S
 |0=>fun _ _=> .none
 |m+1=>fun z E=>xe hd k I r12 l_0 l_1 t A r2 q x B h v d v90 j (l7 hd k I j r12 l_0 l_1 t A r2 q x B h v d v90 m) z E
def sA (hd:fJ S) (k:Nat) (I:Pan Int Tm->OS S) (l_0 l_1:Int) (t:Tm) (A:Int) (r2:LC) (x:LT) (v d:Int) (J3:(LC)->(LB)->(Br Tm)->Int->Int->(LT)->Int->OS S) (E:(LB)->Int->Int->OS S) (j:LB) (h v90:Int):OS S:=ab (decide ((v90:Int)<(t.sys.length:Int))) (asP (af t.sys v90) fun z=>aa k (tN k l_0 l_1 z.face d) fun q=>Pan.elim q (fun q=>J3 q j z h v90 ([]:LT) 0) (fun B=>I (.pan B))) (I (.ok (Tm.mk t.kind A t.name r2 x j)))
def atX (hd:fJ S) (k:Nat) (I:Pan Int Tm->OS S) (l_0 l_1:Int) (t:Tm) (x:Int) (r2:LC) (j:LT) (v d:Int):Nat->(LB)->Int->Int->OS S
 |0=>fun _ _ _=> .none
 |m+1=>fun q h z=>sA hd k I l_0 l_1 t x r2 j v d (fun E q F h z A B=>l7 hd k I (atX hd k I l_0 l_1 t x r2 j v d m) E l_0 l_1 t x r2 j q F h v d z k A B) (atX hd k I l_0 l_1 t x r2 j v d m) q h z
def sz (hd:fJ S) (k:Nat) (I:Pan Int Tm->OS S) (l_0 l_1:Int) (t:Tm) (A:Int) (r2:LC) (v d:Int) (J2:(LT)->(LB)->Int->Int->OS S) (q:(LT)->Int->OS S) (h:LT) (j:Int):OS S:=ab (decide ((j:Int)<(t.kids.length:Int))) (asP (af t.kids j) fun x4=>aa k (gI k t.kind j) fun z=>hd l_0 l_1 (ac x4) (su .i64 (v+z.1)) (su .i64 (d+z.2)) fun x=>Pan.elim x (fun x=>asP (aw 1099511627776 h.length [(ac x)].length) fun E=>q (h++[(ac x)]) (su .i64 (j+1))) (fun B=>I (.pan B))) (ab (t.kind==15) (J2 h ([]:LB) 1 0) (J2 h ([]:LB) 0 0))
def auw (hd:fJ S) (k:Nat) (I:Pan Int Tm->OS S) (l_0 l_1:Int) (t:Tm) (q:Int) (r2:LC) (v d:Int):Nat->(LT)->Int->OS S
 |0=>fun _ _=> .none
 |m+1=>fun h z=>sz hd k I l_0 l_1 t q r2 v d (fun h x j A=>atX hd k I l_0 l_1 t q r2 h v d k x j A) (auw hd k I l_0 l_1 t q r2 v d m) h z
def Da (hd:fJ S) (k:Nat) (I:Pan Int Tm->OS S) (l_0 l_1:Int) (t:Tm) (r2:LC) (v d:Int) (J1:Int->(LT)->Int->OS S) (h:Int):OS S:=J1 h ([]:LT) 0
def uJ (hd:fJ S) (k:Nat) (I:Pan Int Tm->OS S) (l_0 l_1:Int) (t:Tm) (r2:LC) (v d:Int):Nat->Int->OS S
 |0=>fun _=> .none
 |_+1=>fun h=>Da hd k I l_0 l_1 t r2 v d (fun h j q=>auw hd k I l_0 l_1 t h r2 v d k j q) h
def HY (hd:fJ S) (k:Nat) (I:Pan Int Tm->OS S) (J0:(LC)->Int->OS S) (l_0 l_1:Int) (t:Tm) (v d:Int):OS S:=aa k (tN k l_0 l_1 t.r d) fun h=>Pan.elim h (fun h=>ab (t.kind==1) (ab (decide ((t.n:Int)>=v)) (ab (decide ((t.n:Int)>(su .i64 (1000000000-l_0)))) (I (.pan 100)) (J0 h (su .i64 (t.n+l_0)))) (J0 h t.n)) (J0 h t.n)) (fun j=>I (.pan j))
def dk:Nat->Int->Int->Tm->Int->Int->(Pan Int Tm->OS S)->OS S
 |0=>fun _ _ _ _ _ _=> .none
 |k+1=>fun l_0 l_1 t v d I=>HY (dk k) k I (fun j h=>uJ (dk k) k I l_0 l_1 t j v d k h) l_0 l_1 t v d
def yW (k:Nat) (c0 c1:Int) (c2:Tm) (I:Pan Int Tm->OS S):OS S:=dk k c1 0 (ac c2) 0 0 fun h=>Pan.elim h (fun h=>dk k 0 c0 (ac h) 0 0 fun j=>Pan.elim j (fun j=>I (.ok (ac j))) (fun q=>I (.pan q))) (fun x=>I (.pan x))
def xd (k:Nat) (I:Tm×Int->OS S) (c0 c1:Int) (c2:Tm) (numbers:List Int) (j:Int->OS S) (h:Int):OS S:=ab (decide ((h:Int)<(numbers.length:Int))) (asP (af numbers h) fun x2=>ab (decide ((x2:Int)<0)) (I ((Tm.mk 0 0 alH [] [] []),2)) (j (su .i64 (h+1)))) (aa k (yW k c0 c1 (ac c2)) fun q=>Pan.elim q (fun q=>I ((ac q),0)) (fun x=>I ((Tm.mk 0 0 alH [] [] []),x)))
def nE (k:Nat) (I:Tm×Int->OS S) (c0 c1:Int) (c2:Tm) (numbers:List Int):Nat->Int->OS S
 |0=>fun _=> .none
 |m+1=>fun h=>xd k I c0 c1 c2 numbers (nE k I c0 c1 c2 numbers m) h
def BS (k:Nat) (I:Tm×Int->OS S) (J0:Int->OS S) (t:Tm) (numbers:List Int) (c0 c1:Int) (c2:Tm):OS S:=aa k (asi k (ac t)) fun r1=>ab (!(r1==0)) (I ((Tm.mk 0 0 alH [] [] []),r1)) (J0 0)
def y7 (k:Nat) (t:Tm) (numbers:List Int) (c0 c1:Int) (c2:Tm) (I:Tm×Int->OS S):OS S:=BS k I (fun h=>nE k I c0 c1 c2 numbers k h) t numbers c0 c1 c2
def lu (k:Nat) (t:Tm) (vars dims:Int) (I:Tm×Int->OS S):OS S:=aa k (y7 k (ac t) [vars,dims,su .i64 (1000000-vars)] dims vars (ac t)) fun r1=>I ((ac r1.1),r1.2)
def ze (k:Nat) (t:Tm) (I:Int->OS S):OS S:=ab (t.kind==15) (I 1) (I 0)
abbrev gX (S:Type):=Tm->Int->Tm->Int->Int->(Pan Int Tm->OS S)->OS S
def xj (hd:gX S) (k:Nat) (I:Pan Int Tm->OS S) (t:Tm) (B:LT) (j:LB) (A:(Br Tm)) (u:Tm) (a_n vars dims E:Int) (x:(LB)->Int->OS S) (z:(LT)->Int->OS S) (h:LT) (q:Int):OS S:=ab (decide ((q:Int)<(A.kids.length:Int))) (asP (af A.kids q) fun F=>aa k (ze k (ac t)) fun J=>hd (ac F) a_n (ac u) vars (su .i64 (dims+J)) fun r14=>Pan.elim r14 (fun r14=>asP (aw 1099511627776 h.length [(ac r14)].length) fun M=>z (h++[(ac r14)]) (su .i64 (q+1))) (fun L=>I (.pan L))) (asP (aw 1099511627776 j.length [(Br.mk A.face h)].length) fun O=>x (j++[(Br.mk A.face h)]) (su .i64 (E+1)))
def avf (hd:gX S) (k:Nat) (I:Pan Int Tm->OS S) (q:(LB)->Int->OS S) (t:Tm) (h:LT) (j:LB) (B:(Br Tm)) (u:Tm) (a_n vars dims z:Int):Nat->(LT)->Int->OS S
 |0=>fun _ _=> .none
 |m+1=>fun x A=>xj hd k I t h j B u a_n vars dims z q (avf hd k I q t h j B u a_n vars dims z m) x A
def sG (hd:gX S) (k:Nat) (I:Pan Int Tm->OS S) (t:Tm) (j:LT) (u:Tm) (a_n vars dims:Int) (J2:(LB)->(Br Tm)->Int->(LT)->Int->OS S) (x:(LB)->Int->OS S) (h:LB) (q:Int):OS S:=ab (decide ((q:Int)<(t.sys.length:Int))) (asP (af t.sys q) fun z=>asP (aw 1099511627776 0 z.face.length) fun A=>J2 h z q ([]:LT) 0) (I (.ok (Tm.mk t.kind 0 t.name t.r j h)))
def kw (hd:gX S) (k:Nat) (I:Pan Int Tm->OS S) (t:Tm) (h:LT) (u:Tm) (a_n vars dims:Int):Nat->(LB)->Int->OS S
 |0=>fun _ _=> .none
 |m+1=>fun j q=>sG hd k I t h u a_n vars dims (fun j A q x z=>avf hd k I (kw hd k I t h u a_n vars dims m) t h j A u a_n vars dims q k x z) (kw hd k I t h u a_n vars dims m) j q
def sF (hd:gX S) (k:Nat) (I:Pan Int Tm->OS S) (t u:Tm) (a_n vars dims:Int) (J1:(LT)->(LB)->Int->OS S) (j:(LT)->Int->OS S) (h:LT) (v68:Int):OS S:=ab (decide ((v68:Int)<(t.kids.length:Int))) (asP (af t.kids v68) fun x3=>aa k (gI k t.kind v68) fun x=>hd (ac x3) a_n (ac u) (su .i64 (vars+x.1)) (su .i64 (dims+x.2)) fun q=>Pan.elim q (fun q=>asP (aw 1099511627776 h.length [(ac q)].length) fun A=>j (h++[(ac q)]) (su .i64 (v68+1))) (fun z=>I (.pan z))) (J1 h ([]:LB) 0)
def qj (hd:gX S) (k:Nat) (I:Pan Int Tm->OS S) (t u:Tm) (a_n vars dims:Int):Nat->(LT)->Int->OS S
 |0=>fun _ _=> .none
 |m+1=>fun h v68=>sF hd k I t u a_n vars dims (fun h j q=>kw hd k I t h u a_n vars dims k j q) (qj hd k I t u a_n vars dims m) h v68
def H2 (hd:gX S) (k:Nat) (I:Pan Int Tm->OS S) (J0:(LT)->Int->OS S) (t:Tm) (a_n:Int) (u:Tm) (vars dims:Int):OS S:=ab (t.kind==1) (ab (t.n==(su .i64 (a_n+vars))) (aa k (lu k (ac u) vars dims) fun r1=>ab (!(r1.2==0)) (I (.pan r1.2)) (I (.ok (ac r1.1)))) (ab (decide ((t.n:Int)>(su .i64 (a_n+vars)))) (I (.ok (Tm.mk 1 (su .i64 (t.n-1)) alH [] [] []))) (I (.ok (ac t))))) (asP (aw 1099511627776 0 t.r.length) fun x2=>J0 ([]:LT) 0)
def gA:Nat->Tm->Int->Tm->Int->Int->(Pan Int Tm->OS S)->OS S
 |0=>fun _ _ _ _ _ _=> .none
 |k+1=>fun t a_n u vars dims I=>H2 (gA k) k I (fun h v68=>qj (gA k) k I t u a_n vars dims k h v68) t a_n u vars dims
abbrev dp (S:Type):=Tm->(Int->OS S)->OS S
def uf (hd:dp S) (k:Nat) (a_k:Tm) (p h c0:Int) (I:Bool×Int->OS S):OS S:=hd (ac a_k) fun r1=>I (true,if r1>c0 then r1 else c0)
def yk (hd:dp S) (k:Nat) (I:Bool×Int->OS S) (t:Tm) (v42:Int) (x4:(Br Tm)) (h:Int) (j:Int->Int->Int->OS S) (q:Int->Int->OS S) (e0_0'' v49:Int):OS S:=ab (decide ((v49:Int)<(x4.kids.length:Int))) (asP (af x4.kids v49) fun x5=>aa k (uf hd k (ac x5) 0 h e0_0'') fun x=>ab (!x.1) (I (false,x.2)) (q x.2 (su .i64 (v49+1)))) (j e0_0'' (su .i64 (v42+1)) h)
def n5 (hd:dp S) (k:Nat) (I:Bool×Int->OS S) (j:Int->Int->Int->OS S) (t:Tm) (v42:Int) (x4:(Br Tm)) (h:Int):Nat->Int->Int->OS S
 |0=>fun _ _=> .none
 |m+1=>fun e0_0'' v49=>yk hd k I t v42 x4 h j (n5 hd k I j t v42 x4 h m) e0_0'' v49
def tu (hd:dp S) (k:Nat) (I:Bool×Int->OS S) (t:Tm) (J2:Int->(Br Tm)->Int->Int->Int->OS S) (j:Int->Int->Int->OS S) (e0_0' v42 h:Int):OS S:=ab (decide ((v42:Int)<(t.sys.length:Int))) (asP (af t.sys v42) fun x4=>J2 v42 x4 h e0_0' 0) (I (true,e0_0'))
def kN (hd:dp S) (k:Nat) (I:Bool×Int->OS S) (t:Tm):Nat->Int->Int->Int->OS S
 |0=>fun _ _ _=> .none
 |m+1=>fun e0_0' v42 h=>tu hd k I t (fun v42 x4 h e0_0'' v49=>n5 hd k I (kN hd k I t m) t v42 x4 h k e0_0'' v49) (kN hd k I t m) e0_0' v42 h
def tt (hd:dp S) (k:Nat) (I:Bool×Int->OS S) (t:Tm) (J1:Int->Int->Int->OS S) (j:Int->Int->OS S) (h v17:Int):OS S:=ab (decide ((v17:Int)<(t.kids.length:Int))) (asP (af t.kids v17) fun x1=>aa k (gI k t.kind v17) fun x=>aa k (uf hd k (ac x1) x.1 x.2 h) fun q=>ab (!q.1) (I (false,q.2)) (j q.2 (su .i64 (v17+1)))) (ab (t.kind==15) (J1 h 0 1) (J1 h 0 0))
def av7 (hd:dp S) (k:Nat) (I:Bool×Int->OS S) (t:Tm):Nat->Int->Int->OS S
 |0=>fun _ _=> .none
 |m+1=>fun j v17=>tt hd k I t (fun e0_0' v42 h=>kN hd k I t k e0_0' v42 h) (av7 hd k I t m) j v17
def IX (hd:dp S) (k:Nat) (I:Bool×Int->OS S) (J0:Int->Int->OS S) (t:Tm) (c0:Int):OS S:=J0 c0 0
def DZ (hd:dp S) (k:Nat) (t:Tm) (c0:Int) (I:Bool×Int->OS S):OS S:=IX hd k I (fun h v17=>av7 hd k I t k h v17) t c0
def TO (hd:dp S) (k:Nat) (I:Int->OS S) (t:Tm):OS S:=aa k (DZ hd k (ac t) 0) fun r1=>I (su .i64 (r1.2+1))
def j5:Nat->Tm->(Int->OS S)->OS S
 |0=>fun _ _=> .none
 |k+1=>fun t I=>TO (j5 k) k I t
def zd (k:Nat) (t:Tm) (a_n:Int) (u:Tm) (I:Tm×Int->OS S):OS S:=aa k (asi k (ac t)) fun r1=>ab (!(r1==0)) (I ((Tm.mk 0 0 alH [] [] []),r1)) (aa k (asi k (ac u)) fun j=>ab (!(j==0)) (I ((Tm.mk 0 0 alH [] [] []),j)) (ab (decide ((a_n:Int)<0)) (I ((Tm.mk 0 0 alH [] [] []),2)) (j6 k (ac t) fun q=>gz k (ac t) (if 1099511627776<a_n then 1099511627776 else a_n) fun x=>j6 k (ac u) fun z=>ab (decide ((su .i64 (q+(su .i64 (x*(su .i64 (z-1))))):Int)>20000)) (I ((Tm.mk 0 0 alH [] [] []),221)) (gA k (ac t) (if 1099511627776<a_n then 1099511627776 else a_n) (ac u) 0 0 fun h=>Pan.elim h (fun h=>j5 k (ac h) fun A=>ab (decide ((A:Int)>200)) (I ((Tm.mk 0 0 alH [] [] []),62)) (I ((ac h),0))) (fun B=>I ((Tm.mk 0 0 alH [] [] []),B))))))
def asH (k:Nat) (t:Tm) (a_e c0:Int) (I:Tm×Int->OS S):OS S:=ab (c0==0) (ab (!(a_e==0)) (I ((Tm.mk 0 0 alH [] [] []),a_e)) (I ((ac t),a_e))) (ab (!(c0==0)) (I ((Tm.mk 0 0 alH [] [] []),c0)) (I ((ac t),c0)))
def za (k:Nat) (t u:Tm) (c0:Int) (I:Tm×Int->OS S):OS S:=aa k (dG k c0) fun r1=>ab (!r1) (I ((Tm.mk 0 0 alH [] [] []),c0)) (aa k (zd k (ac t) 0 (ac u)) fun h=>aa k (asH k (ac h.1) h.2 c0) fun j=>I ((ac j.1),j.2))
def cW (k:Nat) (b:(Br Tm)) (I:Bool->OS S):OS S:=ab ((b.face.length:Int)==1) (asP (af b.face 0) fun x1=>I ((x1.pos==0)&&((x1.neg==0)&&true))) (I false)
def cm (k:Nat) (I:Int->OS S) (s:LB) (h:Int->OS S) (j:Int):OS S:=ab (decide ((j:Int)<(s.length:Int))) (asP (af s j) fun x1=>aa k (cW k x1) fun q=>ab (q) (I j) (h (su .i64 (j+1)))) (I (-1))
def av4 (k:Nat) (I:Int->OS S) (s:LB):Nat->Int->OS S
 |0=>fun _=> .none
 |m+1=>fun h=>cm k I s (av4 k I s m) h
def aAn (k:Nat) (I:Int->OS S) (J0:Int->OS S) (s:LB):OS S:=J0 0
def cP (k:Nat) (s:LB) (I:Int->OS S):OS S:=aAn k I (fun h=>av4 k I s k h) s
def cS (k:Nat) (l:LB) (I:Int->OS S):OS S:=aa k (cP k l) fun r1=>I r1
def au3 (k:Nat) (I:LC->OS S):OS S:=I [(Cl.mk 0 0)]
def i_ (k:Nat) (s i:Int) (I:Int->OS S):OS S:=aa k (nd k i) fun r1=>ab (!r1) (I (bj .and .u32 s 16777215)) (asP (bR (0<=(su .u64 i))) fun x2=>I (bj .or .u32 (bj .and .u32 s 16777215) (su .u32 (1*2^min (arM (su .u64 i)) 32))))
def JH (k:Nat) (a_x:Int) (I:Int->OS S):OS S:=asP (af (ByteArray.mk #[0,1,1,2,1,2,2,3,1,2,2,3,2,3,3,4,1,2,2,3,2,3,3,4,2,3,3,4,3,4,4,5,1,2,2,3,2,3,3,4,2,3,3,4,3,4,4,5,2,3,3,4,3,4,4,5,3,4,4,5,4,5,5,6,1,2,2,3,2,3,3,4,2,3,3,4,3,4,4,5,2,3,3,4,3,4,4,5,3,4,4,5,4,5,5,6,2,3,3,4,3,4,4,5,3,4,4,5,4,5,5,6,3,4,4,5,4,5,5,6,4,5,5,6,5,6,6,7,1,2,2,3,2,3,3,4,2,3,3,4,3,4,4,5,2,3,3,4,3,4,4,5,3,4,4,5,4,5,5,6,2,3,3,4,3,4,4,5,3,4,4,5,4,5,5,6,3,4,4,5,4,5,5,6,4,5,5,6,5,6,6,7,2,3,3,4,3,4,4,5,3,4,4,5,4,5,5,6,3,4,4,5,4,5,5,6,4,5,5,6,5,6,6,7,3,4,4,5,4,5,5,6,4,5,5,6,5,6,6,7,4,5,5,6,5,6,6,7,5,6,6,7,6,7,7,8]).data.toList (Int.fdiv a_x (2^min (arM 24) 32))) fun x1=>asP (af (ByteArray.mk #[0,1,1,2,1,2,2,3,1,2,2,3,2,3,3,4,1,2,2,3,2,3,3,4,2,3,3,4,3,4,4,5,1,2,2,3,2,3,3,4,2,3,3,4,3,4,4,5,2,3,3,4,3,4,4,5,3,4,4,5,4,5,5,6,1,2,2,3,2,3,3,4,2,3,3,4,3,4,4,5,2,3,3,4,3,4,4,5,3,4,4,5,4,5,5,6,2,3,3,4,3,4,4,5,3,4,4,5,4,5,5,6,3,4,4,5,4,5,5,6,4,5,5,6,5,6,6,7,1,2,2,3,2,3,3,4,2,3,3,4,3,4,4,5,2,3,3,4,3,4,4,5,3,4,4,5,4,5,5,6,2,3,3,4,3,4,4,5,3,4,4,5,4,5,5,6,3,4,4,5,4,5,5,6,4,5,5,6,5,6,6,7,2,3,3,4,3,4,4,5,3,4,4,5,4,5,5,6,3,4,4,5,4,5,5,6,4,5,5,6,5,6,6,7,3,4,4,5,4,5,5,6,4,5,5,6,5,6,6,7,4,5,5,6,5,6,6,7,5,6,6,7,6,7,7,8]).data.toList (bj .and .u32 (Int.fdiv a_x (2^min (arM 16) 32)) 255)) fun x2=>asP (af (ByteArray.mk #[0,1,1,2,1,2,2,3,1,2,2,3,2,3,3,4,1,2,2,3,2,3,3,4,2,3,3,4,3,4,4,5,1,2,2,3,2,3,3,4,2,3,3,4,3,4,4,5,2,3,3,4,3,4,4,5,3,4,4,5,4,5,5,6,1,2,2,3,2,3,3,4,2,3,3,4,3,4,4,5,2,3,3,4,3,4,4,5,3,4,4,5,4,5,5,6,2,3,3,4,3,4,4,5,3,4,4,5,4,5,5,6,3,4,4,5,4,5,5,6,4,5,5,6,5,6,6,7,1,2,2,3,2,3,3,4,2,3,3,4,3,4,4,5,2,3,3,4,3,4,4,5,3,4,4,5,4,5,5,6,2,3,3,4,3,4,4,5,3,4,4,5,4,5,5,6,3,4,4,5,4,5,5,6,4,5,5,6,5,6,6,7,2,3,3,4,3,4,4,5,3,4,4,5,4,5,5,6,3,4,4,5,4,5,5,6,4,5,5,6,5,6,6,7,3,4,4,5,4,5,5,6,4,5,5,6,5,6,6,7,4,5,5,6,5,6,6,7,5,6,6,7,6,7,7,8]).data.toList (bj .and .u32 (Int.fdiv a_x (2^min (arM 8) 32)) 255)) fun x3=>asP (af (ByteArray.mk #[0,1,1,2,1,2,2,3,1,2,2,3,2,3,3,4,1,2,2,3,2,3,3,4,2,3,3,4,3,4,4,5,1,2,2,3,2,3,3,4,2,3,3,4,3,4,4,5,2,3,3,4,3,4,4,5,3,4,4,5,4,5,5,6,1,2,2,3,2,3,3,4,2,3,3,4,3,4,4,5,2,3,3,4,3,4,4,5,3,4,4,5,4,5,5,6,2,3,3,4,3,4,4,5,3,4,4,5,4,5,5,6,3,4,4,5,4,5,5,6,4,5,5,6,5,6,6,7,1,2,2,3,2,3,3,4,2,3,3,4,3,4,4,5,2,3,3,4,3,4,4,5,3,4,4,5,4,5,5,6,2,3,3,4,3,4,4,5,3,4,4,5,4,5,5,6,3,4,4,5,4,5,5,6,4,5,5,6,5,6,6,7,2,3,3,4,3,4,4,5,3,4,4,5,4,5,5,6,3,4,4,5,4,5,5,6,4,5,5,6,5,6,6,7,3,4,4,5,4,5,5,6,4,5,5,6,5,6,6,7,4,5,5,6,5,6,6,7,5,6,6,7,6,7,7,8]).data.toList (bj .and .u32 a_x 255)) fun x4=>I (su .i64 (su .u8 ((su .u8 ((su .u8 ((x1.toNat:Int)+(x2.toNat:Int)))+(x3.toNat:Int)))+(x4.toNat:Int))))
def lw (k:Nat) (s:Int) (I:Int->OS S):OS S:=aa k (JH k (bj .and .u32 s 16777215)) fun r1=>I r1
def yE (k:Nat) (i:Int) (I:Bool->OS S):OS S:=aa k (i_ k 0 i) fun r1=>aa k (lw k r1) fun h=>I (h==1)
def DM (k:Nat) (t:Tm) (i:Int) (a_r:LC) (I:Int->OS S):OS S:=aa k (asi k (ac t)) fun r1=>ab (!(r1==0)) (I r1) (aa k (yE k i) fun h=>ab (!h) (I 2) (aa k (hY k a_r) fun j=>ab (!j) (I 2) (I 0)))
def DG (k:Nat) (c0:Int) (c1:LC) (I:Unit->OS S):OS S:=I ()
def DH (k:Nat) (c0:Int) (c1:LC) (I:Unit->OS S):OS S:=I ()
def DF (k:Nat) (i:Int) (a_r:LC) (I:Int×LC->OS S):OS S:=aa k (DG k i a_r) fun r1=>aa k (DH k i a_r) fun h=>I (i,a_r)
def amz (k:Nat) (s i:Int) (I:Bool->OS S):OS S:=aa k (nd k i) fun r1=>ab (r1) (asP (bR (0<=(su .u64 i))) fun x2=>I ((bj .and .u32 (Int.fdiv s (2^min (arM (su .u64 i)) 32)) 1)==1)) (I false)
def tD (k:Nat) (f:LC) (I:LC->OS S):OS S:=asP (aw 1099511627776 0 f.length) fun x1=>I f
def yK (k:Nat) (i:Int) (I:Bool->OS S):OS S:=aa k (i_ k 0 i) fun r1=>aa k (lw k r1) fun h=>I (h==1)
def tJ (k:Nat) (c:Cl) (I:Cl×Bool->OS S):OS S:=aa k (tB k c) fun r1=>I (c,!r1)
def wW (k:Nat) (I:LC->OS S) (l:LC) (j:Int->(LC)->OS S) (v12:Int) (h:LC):OS S:=ab (decide ((v12:Int)<(l.length:Int))) (asP (af l v12) fun x1=>aa k (tJ k x1) fun q=>ab (q.2) (asP (aw 1099511627776 h.length [q.1].length) fun x3=>j (su .i64 (v12+1)) (h++[q.1])) (j (su .i64 (v12+1)) h)) (I h)
def avM (k:Nat) (I:LC->OS S) (l:LC):Nat->Int->(LC)->OS S
 |0=>fun _ _=> .none
 |m+1=>fun v12 h=>wW k I l (avM k I l m) v12 h
def HJ (k:Nat) (I:LC->OS S) (J0:Int->(LC)->OS S) (l:LC):OS S:=J0 0 ([]:LC)
def yN (k:Nat) (l:LC) (I:LC->OS S):OS S:=HJ k I (fun v12 h=>avM k I l k v12 h) l
def tI (k:Nat) (f:LC) (I:LC×Int->OS S):OS S:=aa k (hY k f) fun r1=>ab (!r1) (I (([]:LC),2)) (aa k (yN k f) fun j=>aa k (gy k j) fun h=>I (h.1,h.2))
def yO (k:Nat) (b c0:Cl) (I:Cl×Bool->OS S):OS S:=aa k (pb k c0 b) fun r1=>aa k (tJ k r1) fun h=>I (h.1,h.2)
def wV (k:Nat) (I:LC->OS S) (c0:Cl) (l:LC) (j:Int->(LC)->OS S) (v12:Int) (h:LC):OS S:=ab (decide ((v12:Int)<(l.length:Int))) (asP (af l v12) fun x1=>aa k (yO k x1 c0) fun q=>ab (q.2) (asP (aw 1099511627776 h.length [q.1].length) fun x3=>j (su .i64 (v12+1)) (h++[q.1])) (j (su .i64 (v12+1)) h)) (I h)
def p8 (k:Nat) (I:LC->OS S) (c0:Cl) (l:LC):Nat->Int->(LC)->OS S
 |0=>fun _ _=> .none
 |m+1=>fun v12 h=>wV k I c0 l (p8 k I c0 l m) v12 h
def HI (k:Nat) (I:LC->OS S) (J0:Int->(LC)->OS S) (l:LC) (c0:Cl):OS S:=J0 0 ([]:LC)
def yM (k:Nat) (l:LC) (c0:Cl) (I:LC->OS S):OS S:=HI k I (fun v12 h=>p8 k I c0 l k v12 h) l c0
def wX (k:Nat) (I:LC×Int->OS S) (g f:LC) (j:Int->(LC)->OS S) (v11:Int) (h:LC):OS S:=ab (decide ((v11:Int)<(f.length:Int))) (asP (af f v11) fun x1=>aa k (yM k g x1) fun q=>asP (aw 1099511627776 h.length q.length) fun x3=>j (su .i64 (v11+1)) (h++q)) (aa k (gy k h) fun x=>I (x.1,x.2))
def p_ (k:Nat) (I:LC×Int->OS S) (g f:LC):Nat->Int->(LC)->OS S
 |0=>fun _ _=> .none
 |m+1=>fun v11 h=>wX k I g f (p_ k I g f m) v11 h
def HK (k:Nat) (I:LC×Int->OS S) (J0:Int->(LC)->OS S) (f g:LC):OS S:=J0 0 ([]:LC)
def pe (k:Nat) (f g:LC) (I:LC×Int->OS S):OS S:=HK k I (fun v11 h=>p_ k I g f k v11 h) f g
def yL (k:Nat) (f g:LC) (I:LC×Int->OS S):OS S:=asP (aw 1099511627776 ([]:LC).length f.length) fun x1=>asP (aw 1099511627776 (([]:LC)++f).length g.length) fun x2=>aa k (gy k ((([]:LC)++f)++g)) fun h=>I (h.1,h.2)
def w8 (k:Nat) (I:LC×Int->OS S) (q:List Int) (j:Int->(LC)->OS S) (v28:Int) (h:LC):OS S:=ab (decide ((v28:Int)<(q.length:Int))) (asP (af q v28) fun x6=>aa k (i_ k 0 x6) fun x=>asP (aw 1099511627776 h.length [(Cl.mk x 0)].length) fun A=>j (su .i64 (v28+1)) (h++[(Cl.mk x 0)])) (aa k (gy k h) fun z=>I (z.1,z.2))
def avc (k:Nat) (I:LC×Int->OS S) (j:List Int):Nat->Int->(LC)->OS S
 |0=>fun _ _=> .none
 |m+1=>fun v28 h=>w8 k I j (avc k I j m) v28 h
def aoa (k:Nat) (I:LC×Int->OS S) (c:Cl) (r1:List Int) (J1:(List Int)->Int->(LC)->OS S) (q:Int->(LC)->OS S) (j:Int) (h:LC):OS S:=ab (decide ((j:Int)<(r1.length:Int))) (asP (af r1 j) fun x2=>aa k (i_ k 0 x2) fun x=>asP (aw 1099511627776 h.length [(Cl.mk 0 x)].length) fun x4=>q (su .i64 (j+1)) (h++[(Cl.mk 0 x)])) (vz c.neg fun z=>J1 z 0 h)
def qh (k:Nat) (I:LC×Int->OS S) (c:Cl) (r1:List Int):Nat->Int->(LC)->OS S
 |0=>fun _ _=> .none
 |m+1=>fun q j=>aoa k I c r1 (fun x v28 h=>avc k I x k v28 h) (qh k I c r1 m) q j
def HS (k:Nat) (I:LC×Int->OS S) (J0:(List Int)->Int->(LC)->OS S) (c:Cl):OS S:=vz c.pos fun r1=>J0 r1 0 ([]:LC)
def yV (k:Nat) (c:Cl) (I:LC×Int->OS S):OS S:=HS k I (fun r1 j h=>qh k I c r1 k j h) c
def w7 (k:Nat) (I:LC×Int->OS S) (x1:Cl) (g f:LC) (z:Int) (q:Int->(LC)->OS S) (x:Int->(LC)->OS S) (j:Int) (h:LC):OS S:=ab (decide ((j:Int)<(g.length:Int))) (asP (af g j) fun x2=>aa k (pb k x1 x2) fun A=>asP (aw 1099511627776 h.length [A].length) fun x4=>x (su .i64 (j+1)) (h++[A])) (q (su .i64 (z+1)) h)
def nA (k:Nat) (I:LC×Int->OS S) (h:Int->(LC)->OS S) (x1:Cl) (g f:LC) (q:Int):Nat->Int->(LC)->OS S
 |0=>fun _ _=> .none
 |m+1=>fun x j=>w7 k I x1 g f q h (nA k I h x1 g f q m) x j
def an_ (k:Nat) (I:LC×Int->OS S) (g f:LC) (J1:Cl->Int->Int->(LC)->OS S) (q:Int->(LC)->OS S) (j:Int) (h:LC):OS S:=ab (decide ((j:Int)<(f.length:Int))) (asP (af f j) fun x1=>J1 x1 j 0 h) (aa k (gy k h) fun x=>I (x.1,x.2))
def lZ (k:Nat) (I:LC×Int->OS S) (g f:LC):Nat->Int->(LC)->OS S
 |0=>fun _ _=> .none
 |m+1=>fun h q=>an_ k I g f (fun x1 h x j=>nA k I (lZ k I g f m) x1 g f h k x j) (lZ k I g f m) h q
def HR (k:Nat) (I:LC×Int->OS S) (J0:Int->(LC)->OS S) (f g:LC):OS S:=J0 0 ([]:LC)
def jW (k:Nat) (f g:LC) (I:LC×Int->OS S):OS S:=HR k I (fun j h=>lZ k I g f k j h) f g
def yU (k:Nat) (a_have:LC) (c:Cl) (I:LC×Int->OS S):OS S:=aa k (yV k c) fun r1=>ab (!(r1.2==0)) (I (([]:LC),r1.2)) (aa k (jW k a_have r1.1) fun h=>I (h.1,h.2))
def w5 (k:Nat) (I:LC×Int->OS S) (l:LC) (j:(LC)->Int->OS S) (v1:LC) (h:Int):OS S:=ab (decide ((h:Int)<(l.length:Int))) (asP (af l h) fun x1=>aa k (yU k v1 x1) fun q=>ab (!(q.2==0)) (I (([]:LC),q.2)) (j q.1 (su .i64 (h+1)))) (I (v1,0))
def qe (k:Nat) (I:LC×Int->OS S) (l:LC):Nat->(LC)->Int->OS S
 |0=>fun _ _=> .none
 |m+1=>fun v1 h=>w5 k I l (qe k I l m) v1 h
def HP (k:Nat) (I:LC×Int->OS S) (J0:(LC)->Int->OS S) (l a_from:LC):OS S:=J0 a_from 0
def DP (k:Nat) (l a_from:LC) (I:LC×Int->OS S):OS S:=HP k I (fun v1 h=>qe k I l k v1 h) l a_from
def ph (k:Nat) (f:LC) (I:LC×Int->OS S):OS S:=aa k (au3 k) fun r1=>aa k (DP k f r1) fun h=>I (h.1,h.2)
def yQ (k:Nat) (f:LC) (I:LC×Int->OS S):OS S:=aa k (pi k [f]) fun r1=>ab (!(r1==0)) (I (([]:LC),r1)) (aa k (ph k f) fun h=>I (h.1,h.2))
def yI (k:Nat) (f:LC) (I:LC×Int->OS S):OS S:=aa k (yQ k f) fun r1=>ab (!(r1.2==0)) (I (([]:LC),r1.2)) (aa k (tI k r1.1) fun h=>I (h.1,h.2))
def wU (k:Nat) (I:LC×Int->OS S) (i:Int) (a_r f:LC) (x:Int) (z:LC) (h:Int->(LC)->OS S) (g11:LC) (j:Int):OS S:=ab (j==0) (aa k (yL k z g11) fun q=>ab (!(q.2==0)) (I (([]:LC),q.2)) (h (su .i64 (x+1)) q.1)) (ab (!(j==0)) (I (([]:LC),j)) (h (su .i64 (x+1)) z))
def p7 (k:Nat) (I:LC×Int->OS S) (h:Int->(LC)->OS S) (i:Int) (a_r f:LC) (j:Int) (x:LC):Nat->(LC)->Int->OS S
 |0=>fun _ _=> .none
 |_+1=>fun g11 q=>wU k I i a_r f j x h g11 q
def sr (k:Nat) (I:LC×Int->OS S) (i:Int) (a_r f:LC) (J1:Int->(LC)->(LC)->Int->OS S) (E:Int->(LC)->OS S) (h:Int) (q:LC):OS S:=ab (decide ((h:Int)<(f.length:Int))) (asP (af f h) fun x4=>aa k (jX k x4.pos i) fun x=>aa k (jX k x4.neg i) fun z=>aa k (amz k x4.pos i) fun J=>ab (J) (aa k (tI k a_r) fun A=>ab (A.2==0) (aa k (pe k [(Cl.mk x z)] A.1) fun F=>J1 h q F.1 F.2) (J1 h q [(Cl.mk x z)] A.2)) (aa k (amz k x4.neg i) fun B=>ab (B) (aa k (yI k a_r) fun j=>ab (j.2==0) (aa k (pe k [(Cl.mk x z)] j.1) fun r13=>J1 h q r13.1 r13.2) (J1 h q [(Cl.mk x z)] j.2)) (J1 h q [(Cl.mk x z)] 0))) (I (q,0))
def lY (k:Nat) (I:LC×Int->OS S) (i:Int) (a_r f:LC):Nat->Int->(LC)->OS S
 |0=>fun _ _=> .none
 |m+1=>fun h j=>sr k I i a_r f (fun h j g11 q=>p7 k I (lY k I i a_r f m) i a_r f h j k g11 q) (lY k I i a_r f m) h j
def HH (k:Nat) (I:LC×Int->OS S) (J0:Int->(LC)->OS S) (f:LC) (i:Int) (a_r:LC):OS S:=aa k (pd k f) fun r1=>ab (!r1) (I (([]:LC),2)) (aa k (yK k i) fun h=>ab (!h) (I (([]:LC),2)) (aa k (hY k a_r) fun j=>ab (!j) (I (([]:LC),2)) (J0 0 [])))
def yJ (k:Nat) (f:LC) (i:Int) (a_r:LC) (I:LC×Int->OS S):OS S:=HH k I (fun h j=>lY k I i a_r f k h j) f i a_r
def tF (k:Nat) (f:LC) (depth c0:Int) (c1:LC) (I:LC×Int->OS S):OS S:=aa k (jc k f) fun r1=>aa k (amz k r1 (su .i64 (c0+depth))) fun q=>ab (!q) (aa k (tD k f) fun x=>I (x,0)) (aa k (jV k c1 0 depth) fun h=>ab (!(h.2==0)) (I (([]:LC),h.2)) (aa k (yJ k f (su .i64 (c0+depth)) h.1) fun j=>I (j.1,j.2)))
def yP (k:Nat) (i:Int) (I:LC×Int->OS S):OS S:=aa k (i_ k 0 i) fun r1=>aa k (lw k r1) fun h=>ab (h==0) (I (([]:LC),2)) (aa k (i_ k 0 i) fun j=>I ([(Cl.mk j 0)],0))
def na (k:Nat) (f g:LC) (I:LC×Int->OS S):OS S:=asP (aw 1099511627776 ([]:LC).length f.length) fun x1=>asP (aw 1099511627776 (([]:LC)++f).length g.length) fun x2=>aa k (gy k ((([]:LC)++f)++g)) fun h=>I (h.1,h.2)
def yS (k:Nat) (a_have:LC) (c:Cl) (c0:Int) (c1:LC) (I:LC×Int->OS S):OS S:=aa k (jX k c.pos c0) fun r1=>aa k (jX k c.neg c0) fun x=>aa k (amz k c.pos c0) fun J=>ab (J) (aa k (jW k [(Cl.mk r1 x)] c1) fun q=>ab (!(q.2==0)) (I (([]:LC),q.2)) (aa k (amz k c.neg c0) fun L=>ab (L) (aa k (ph k c1) fun z=>ab (!(z.2==0)) (I (([]:LC),z.2)) (aa k (jW k q.1 z.1) fun A=>ab (!(A.2==0)) (I (([]:LC),A.2)) (aa k (na k a_have A.1) fun E=>I (E.1,E.2)))) (aa k (na k a_have q.1) fun F=>I (F.1,F.2)))) (aa k (amz k c.neg c0) fun B=>ab (B) (aa k (ph k c1) fun h=>ab (!(h.2==0)) (I (([]:LC),h.2)) (aa k (jW k [(Cl.mk r1 x)] h.1) fun j=>ab (!(j.2==0)) (I (([]:LC),j.2)) (aa k (na k a_have j.1) fun r13=>I (r13.1,r13.2)))) (aa k (na k a_have [(Cl.mk r1 x)]) fun r14=>I (r14.1,r14.2)))
def wZ (k:Nat) (I:LC×Int->OS S) (c0:Int) (c1 l:LC) (j:(LC)->Int->OS S) (v1:LC) (h:Int):OS S:=ab (decide ((h:Int)<(l.length:Int))) (asP (af l h) fun x1=>aa k (yS k v1 x1 c0 c1) fun q=>ab (!(q.2==0)) (I (([]:LC),q.2)) (j q.1 (su .i64 (h+1)))) (I (v1,0))
def qc (k:Nat) (I:LC×Int->OS S) (c0:Int) (c1 l:LC):Nat->(LC)->Int->OS S
 |0=>fun _ _=> .none
 |m+1=>fun v1 h=>wZ k I c0 c1 l (qc k I c0 c1 l m) v1 h
def HO (k:Nat) (I:LC×Int->OS S) (J0:(LC)->Int->OS S) (l a_from:LC) (c0:Int) (c1:LC):OS S:=J0 a_from 0
def DO (k:Nat) (l a_from:LC) (c0:Int) (c1:LC) (I:LC×Int->OS S):OS S:=HO k I (fun v1 h=>qc k I c0 c1 l k v1 h) l a_from c0 c1
def yR (k:Nat) (f:LC) (i:Int) (a_r:LC) (I:LC×Int->OS S):OS S:=aa k (pi k [f,a_r]) fun r1=>ab (!(r1==0)) (I (([]:LC),r1)) (aa k (yP k i) fun h=>ab (!(h.2==0)) (I (([]:LC),h.2)) (aa k (tK k) fun q=>aa k (DO k f q i a_r) fun j=>I (j.1,j.2)))
def yF (k:Nat) (f:LC) (depth c0:Int) (c1:LC) (I:LC×Int->OS S):OS S:=aa k (jc k f) fun r1=>aa k (amz k r1 (su .i64 (c0+depth))) fun q=>ab (!q) (aa k (tD k f) fun x=>I (x,0)) (aa k (jV k c1 0 depth) fun h=>ab (!(h.2==0)) (I (([]:LC),h.2)) (aa k (yR k f (su .i64 (c0+depth)) h.1) fun j=>I (j.1,j.2)))
def yG (k:Nat) (t:Tm) (depth c0:Int) (c1:LC) (I:LC×Int->OS S):OS S:=ab (t.kind==14) (aa k (tF k t.r depth c0 c1) fun r1=>I (r1.1,r1.2)) (aa k (yF k t.r depth c0 c1) fun h=>I (h.1,h.2))
def tG (k:Nat) (i:Int) (c0:Tm) (I:Int->OS S):OS S:=aa k (gI k c0.kind i) fun r1=>I r1.2
def tH (k:Nat) (p c0:Int) (I:Int->OS S):OS S:=I c0
abbrev c8 (S:Type):=Tm->Int->Int->(LC)->(Tm×Int->OS S)->OS S
def wQ (hd:c8 S) (k:Nat) (I:LT×Int->OS S) (c0:Int) (c1:LC) (c4:Int) (l:LT) (depth:Int) (j:(LT)->Int->OS S) (h:LT) (v17:Int):OS S:=ab (decide ((v17:Int)<(l.length:Int))) (asP (af l v17) fun x1=>aa k (tH k v17 c4) fun x=>hd (ac x1) (su .i64 (depth+x)) c0 c1 fun q=>ab (!(q.2==0)) (I (([]:LT),q.2)) (asP (aw 1099511627776 h.length [(ac q.1)].length) fun x4=>j (h++[(ac q.1)]) (su .i64 (v17+1)))) (I (h,0))
def lW (hd:c8 S) (k:Nat) (I:LT×Int->OS S) (c0:Int) (c1:LC) (c4:Int) (l:LT) (depth:Int):Nat->(LT)->Int->OS S
 |0=>fun _ _=> .none
 |m+1=>fun h v17=>wQ hd k I c0 c1 c4 l depth (lW hd k I c0 c1 c4 l depth m) h v17
def HB (hd:c8 S) (k:Nat) (I:LT×Int->OS S) (J0:(LT)->Int->OS S) (l:LT) (depth c0:Int) (c1:LC) (c4:Int):OS S:=J0 ([]:LT) 0
def DK (hd:c8 S) (k:Nat) (l:LT) (depth c0:Int) (c1:LC) (c4:Int) (I:LT×Int->OS S):OS S:=HB hd k I (fun h v17=>lW hd k I c0 c1 c4 l depth k h v17) l depth c0 c1 c4
def wR (hd:c8 S) (k:Nat) (I:LT×Int->OS S) (c0:Int) (c1:LC) (c4:Tm) (l:LT) (depth:Int) (j:(LT)->Int->OS S) (h:LT) (v17:Int):OS S:=ab (decide ((v17:Int)<(l.length:Int))) (asP (af l v17) fun x1=>aa k (tG k v17 (ac c4)) fun x=>hd (ac x1) (su .i64 (depth+x)) c0 c1 fun q=>ab (!(q.2==0)) (I (([]:LT),q.2)) (asP (aw 1099511627776 h.length [(ac q.1)].length) fun x4=>j (h++[(ac q.1)]) (su .i64 (v17+1)))) (I (h,0))
def lX (hd:c8 S) (k:Nat) (I:LT×Int->OS S) (c0:Int) (c1:LC) (c4:Tm) (l:LT) (depth:Int):Nat->(LT)->Int->OS S
 |0=>fun _ _=> .none
 |m+1=>fun h v17=>wR hd k I c0 c1 c4 l depth (lX hd k I c0 c1 c4 l depth m) h v17
def HC (hd:c8 S) (k:Nat) (I:LT×Int->OS S) (J0:(LT)->Int->OS S) (l:LT) (depth c0:Int) (c1:LC) (c4:Tm):OS S:=J0 ([]:LT) 0
def DL (hd:c8 S) (k:Nat) (l:LT) (depth c0:Int) (c1:LC) (c4:Tm) (I:LT×Int->OS S):OS S:=HC hd k I (fun h v17=>lX hd k I c0 c1 c4 l depth k h v17) l depth c0 c1 c4
def wS (hd:c8 S) (k:Nat) (I:Tm×Int->OS S) (c0:Int) (c1:LC) (t:Tm) (r1:LC×Int) (r2:LT×Int) (depth:Int) (j:Int->(LB)->Int->OS S) (q:Int) (h:LB) (v55:Int):OS S:=ab (decide ((v55:Int)<(t.sys.length:Int))) (asP (af t.sys v55) fun x3=>aa k (tF k x3.face depth c0 c1) fun x=>ab (!(x.2==0)) (I ((Tm.mk 0 0 alH [] [] []),x.2)) (ab ((x.1.length:Int)==0) (j q h (su .i64 (v55+1))) (aa k (DK hd k x3.kids depth c0 c1 q) fun z=>ab (!(z.2==0)) (I ((Tm.mk 0 0 alH [] [] []),z.2)) (asP (aw 1099511627776 h.length [(Br.mk x.1 z.1)].length) fun x6=>j q (h++[(Br.mk x.1 z.1)]) (su .i64 (v55+1)))))) (I ((Tm.mk t.kind t.n t.name r1.1 r2.1 h),0))
def fV (hd:c8 S) (k:Nat) (I:Tm×Int->OS S) (c0:Int) (c1:LC) (t:Tm) (r1:LC×Int) (r2:LT×Int) (depth:Int):Nat->Int->(LB)->Int->OS S
 |0=>fun _ _ _=> .none
 |m+1=>fun j h v55=>wS hd k I c0 c1 t r1 r2 depth (fV hd k I c0 c1 t r1 r2 depth m) j h v55
def HF (hd:c8 S) (k:Nat) (I:Tm×Int->OS S) (J0:(LC×Int)->(LT×Int)->Int->(LB)->Int->OS S) (t:Tm) (depth c0:Int) (c1:LC):OS S:=aa k (yG k (ac t) depth c0 c1) fun r1=>ab (!(r1.2==0)) (I ((Tm.mk 0 0 alH [] [] []),r1.2)) (aa k (DL hd k t.kids depth c0 c1 (ac t)) fun h=>ab (!(h.2==0)) (I ((Tm.mk 0 0 alH [] [] []),h.2)) (ab (t.kind==15) (J0 r1 h 1 ([]:LB) 0) (J0 r1 h 0 ([]:LB) 0)))
def d7:Nat->Tm->Int->Int->(LC)->(Tm×Int->OS S)->OS S
 |0=>fun _ _ _ _ _=> .none
 |k+1=>fun t depth c0 c1 I=>HF (d7 k) k I (fun r1 q j h v55=>fV (d7 k) k I c0 c1 t r1 q depth k j h v55) t depth c0 c1
def DE (k:Nat) (i:Int) (I:Int->OS S):OS S:=I i
def pk (k:Nat) (s i:Int) (I:Int->OS S):OS S:=aa k (nd k i) fun r1=>ab (!r1) (I (bj .and .u32 s 16777215)) (aa k (pn k i) fun h=>asP (bR (0<=(su .u64 (su .i64 (i+1))))) fun x3=>asP (bR (0<=(su .u64 i))) fun x4=>I (bj .or .u32 (bj .and .u32 (bj .and .u32 s 16777215) h) (su .u32 ((Int.fdiv (bj .and .u32 s 16777215) (2^min (arM (su .u64 (su .i64 (i+1)))) 32))*2^min (arM (su .u64 i)) 32))))
def wN (k:Nat) (I:LC×Int->OS S) (c0 depth:Int) (f:LC) (j:Int->(LC)->OS S) (v12:Int) (h:LC):OS S:=ab (decide ((v12:Int)<(f.length:Int))) (asP (af f v12) fun x1=>aa k (pk k x1.pos (su .i64 (c0+depth))) fun q=>aa k (pk k x1.neg (su .i64 (c0+depth))) fun x=>asP (aw 1099511627776 h.length [(Cl.mk q x)].length) fun x4=>j (su .i64 (v12+1)) (h++[(Cl.mk q x)])) (aa k (gy k h) fun z=>I (z.1,z.2))
def avL (k:Nat) (I:LC×Int->OS S) (c0 depth:Int) (f:LC):Nat->Int->(LC)->OS S
 |0=>fun _ _=> .none
 |m+1=>fun v12 h=>wN k I c0 depth f (avL k I c0 depth f m) v12 h
def Hx (k:Nat) (I:LC×Int->OS S) (J0:Int->(LC)->OS S) (f:LC) (depth c0:Int):OS S:=J0 0 ([]:LC)
def pc (k:Nat) (f:LC) (depth c0:Int) (I:LC×Int->OS S):OS S:=Hx k I (fun v12 h=>avL k I c0 depth f k v12 h) f depth c0
def yH (k:Nat) (t:Tm) (depth c0:Int) (I:LC×Int->OS S):OS S:=ab (t.kind==14) (aa k (pc k t.r depth c0) fun r1=>I (r1.1,r1.2)) (aa k (pc k t.r depth c0) fun h=>I (h.1,h.2))
abbrev c_ (S:Type):=Tm->Int->Int->(Tm×Int->OS S)->OS S
def wO (hd:c_ S) (k:Nat) (I:LT×Int->OS S) (c0 c1:Int) (l:LT) (depth:Int) (j:(LT)->Int->OS S) (h:LT) (v17:Int):OS S:=ab (decide ((v17:Int)<(l.length:Int))) (asP (af l v17) fun x1=>aa k (tH k v17 c1) fun x=>hd (ac x1) (su .i64 (depth+x)) c0 fun q=>ab (!(q.2==0)) (I (([]:LT),q.2)) (asP (aw 1099511627776 h.length [(ac q.1)].length) fun x4=>j (h++[(ac q.1)]) (su .i64 (v17+1)))) (I (h,0))
def lU (hd:c_ S) (k:Nat) (I:LT×Int->OS S) (c0 c1:Int) (l:LT) (depth:Int):Nat->(LT)->Int->OS S
 |0=>fun _ _=> .none
 |m+1=>fun h v17=>wO hd k I c0 c1 l depth (lU hd k I c0 c1 l depth m) h v17
def Hz (hd:c_ S) (k:Nat) (I:LT×Int->OS S) (J0:(LT)->Int->OS S) (l:LT) (depth c0 c1:Int):OS S:=J0 ([]:LT) 0
def DI (hd:c_ S) (k:Nat) (l:LT) (depth c0 c1:Int) (I:LT×Int->OS S):OS S:=Hz hd k I (fun h v17=>lU hd k I c0 c1 l depth k h v17) l depth c0 c1
def wP (hd:c_ S) (k:Nat) (I:LT×Int->OS S) (c0:Int) (c1:Tm) (l:LT) (depth:Int) (j:(LT)->Int->OS S) (h:LT) (v17:Int):OS S:=ab (decide ((v17:Int)<(l.length:Int))) (asP (af l v17) fun x1=>aa k (tG k v17 (ac c1)) fun x=>hd (ac x1) (su .i64 (depth+x)) c0 fun q=>ab (!(q.2==0)) (I (([]:LT),q.2)) (asP (aw 1099511627776 h.length [(ac q.1)].length) fun x4=>j (h++[(ac q.1)]) (su .i64 (v17+1)))) (I (h,0))
def lV (hd:c_ S) (k:Nat) (I:LT×Int->OS S) (c0:Int) (c1:Tm) (l:LT) (depth:Int):Nat->(LT)->Int->OS S
 |0=>fun _ _=> .none
 |m+1=>fun h v17=>wP hd k I c0 c1 l depth (lV hd k I c0 c1 l depth m) h v17
def HA (hd:c_ S) (k:Nat) (I:LT×Int->OS S) (J0:(LT)->Int->OS S) (l:LT) (depth c0:Int) (c1:Tm):OS S:=J0 ([]:LT) 0
def DJ (hd:c_ S) (k:Nat) (l:LT) (depth c0:Int) (c1:Tm) (I:LT×Int->OS S):OS S:=HA hd k I (fun h v17=>lV hd k I c0 c1 l depth k h v17) l depth c0 c1
def wT (hd:c_ S) (k:Nat) (I:Tm×Int->OS S) (c0:Int) (t:Tm) (r1:LC×Int) (r2:LT×Int) (depth:Int) (j:Int->(LB)->Int->OS S) (q:Int) (h:LB) (v55:Int):OS S:=ab (decide ((v55:Int)<(t.sys.length:Int))) (asP (af t.sys v55) fun x3=>aa k (pc k x3.face depth c0) fun x=>ab (!(x.2==0)) (I ((Tm.mk 0 0 alH [] [] []),x.2)) (ab ((x.1.length:Int)==0) (j q h (su .i64 (v55+1))) (aa k (DI hd k x3.kids depth c0 q) fun z=>ab (!(z.2==0)) (I ((Tm.mk 0 0 alH [] [] []),z.2)) (asP (aw 1099511627776 h.length [(Br.mk x.1 z.1)].length) fun x6=>j q (h++[(Br.mk x.1 z.1)]) (su .i64 (v55+1)))))) (I ((Tm.mk t.kind t.n t.name r1.1 r2.1 h),0))
def fW (hd:c_ S) (k:Nat) (I:Tm×Int->OS S) (c0:Int) (t:Tm) (r1:LC×Int) (r2:LT×Int) (depth:Int):Nat->Int->(LB)->Int->OS S
 |0=>fun _ _ _=> .none
 |m+1=>fun j h v55=>wT hd k I c0 t r1 r2 depth (fW hd k I c0 t r1 r2 depth m) j h v55
def HG (hd:c_ S) (k:Nat) (I:Tm×Int->OS S) (J0:(LC×Int)->(LT×Int)->Int->(LB)->Int->OS S) (t:Tm) (depth c0:Int):OS S:=aa k (yH k (ac t) depth c0) fun r1=>ab (!(r1.2==0)) (I ((Tm.mk 0 0 alH [] [] []),r1.2)) (aa k (DJ hd k t.kids depth c0 (ac t)) fun h=>ab (!(h.2==0)) (I ((Tm.mk 0 0 alH [] [] []),h.2)) (ab (t.kind==15) (J0 r1 h 1 ([]:LB) 0) (J0 r1 h 0 ([]:LB) 0)))
def dT:Nat->Tm->Int->Int->(Tm×Int->OS S)->OS S
 |0=>fun _ _ _ _=> .none
 |k+1=>fun t depth c0 I=>HG (dT k) k I (fun r1 q j h v55=>fW (dT k) k I c0 t r1 q depth k j h v55) t depth c0
def m_ (k:Nat) (t:Tm) (i:Int) (a_r:LC) (I:Tm×Int->OS S):OS S:=aa k (DM k (ac t) i a_r) fun r1=>ab (!(r1==0)) (I ((Tm.mk 0 0 alH [] [] []),r1)) (aa k (jV k a_r i 1) fun h=>ab (!(h.2==0)) (I ((Tm.mk 0 0 alH [] [] []),h.2)) (aa k (DF k i h.1) fun q=>d7 k (ac t) 0 q.1 q.2 fun j=>ab (!(j.2==0)) (I ((Tm.mk 0 0 alH [] [] []),j.2)) (aa k (DE k i) fun z=>dT k (ac j.1) 0 z fun x=>I ((ac x.1),x.2))))
def JL (k:Nat) (t:Tm) (a_r:LC) (c0:Int) (I:Tm×Int->OS S):OS S:=aa k (dG k c0) fun r1=>ab (!r1) (I ((Tm.mk 0 0 alH [] [] []),c0)) (aa k (m_ k (ac t) 0 a_r) fun h=>aa k (asH k (ac h.1) h.2 c0) fun j=>I ((ac j.1),j.2))
def JI (k:Nat) (t:Tm) (c0:Int) (I:Tm×Int->OS S):OS S:=aa k (au3 k) fun r1=>aa k (JL k (ac t) r1 c0) fun h=>I ((ac h.1),h.2)
def zc (k:Nat) (kind:Int) (kids:LT) (I:Int×Int×BA×LT->OS S):OS S:=I (kind,0,alH,kids)
def aJ (k:Nat) (t:Tm) (c0:Int) (I:Tm×Bool×Int->OS S):OS S:=aa k (cS k t.sys) fun r1=>ab (decide ((r1:Int)<0)) (I ((Tm.mk 0 0 alH [] [] []),false,c0)) (asP (af t.sys r1) fun x2=>ab (t.kind==15) (asP (af x2.kids 0) fun x3=>aa k (JI k (ac x3) c0) fun x=>I ((ac x.1),true,x.2)) (ab (t.kind==18) (asP (af x2.kids 0) fun x5=>aa k (zc k 9 [(ac x5)]) fun h=>asP (af t.kids 0) fun z=>aa k (zc k 6 [(Tm.mk h.1 h.2.1 h.2.2.1 [] h.2.2.2 []),(ac z)]) fun j=>I ((Tm.mk j.1 j.2.1 j.2.2.1 [] j.2.2.2 []),true,c0)) (ab (t.kind==16) (asP (af x2.kids 0) fun A=>I ((ac A),true,c0)) (ab (t.kind==17) (asP (af x2.kids 0) fun q=>I ((ac q),true,c0)) (I ((Tm.mk 0 0 alH [] [] []),false,c0))))))
def aW (k:Nat) (a_r:LC) (I:Int->OS S):OS S:=ab ((a_r.length:Int)==0) (I 0) (ab ((a_r.length:Int)==1) (asP (af a_r 0) fun x1=>ab ((x1.pos==0)&&((x1.neg==0)&&true)) (I 1) (I (-1))) (I (-1)))
def cA (k:Nat) (t:Tm) (c0:Int) (I:Tm×Bool×Int->OS S):OS S:=aa k (aW k t.r) fun r1=>ab (decide ((r1:Int)>=0)) (asP (af t.kids (su .i64 (1+r1))) fun x2=>I ((ac x2),true,c0)) (asP (af t.kids 0) fun x3=>ab (x3.kind==12) (asP (af t.kids 0) fun x4=>asP (af x4.kids 0) fun x5=>aa k (JL k (ac x5) t.r c0) fun h=>I ((ac h.1),true,h.2)) (I ((Tm.mk 0 0 alH [] [] []),false,c0)))
def bA (k:Nat) (t:Tm) (I:Tm×Bool->OS S):OS S:=aa k (aW k t.r) fun r1=>ab (decide ((r1:Int)<0)) (I ((Tm.mk 0 0 alH [] [] []),false)) (ab (t.kind==21) (aa k (zc k 20 ([]:LT)) fun h=>I ((Tm.mk h.1 h.2.1 h.2.2.1 [] h.2.2.2 []),true)) (ab (r1==0) (aa k (zc k 24 ([]:LT)) fun j=>I ((Tm.mk j.1 j.2.1 j.2.2.1 [] j.2.2.2 []),true)) (aa k (zc k 25 ([]:LT)) fun q=>I ((Tm.mk q.1 q.2.1 q.2.2.1 [] q.2.2.2 []),true))))
def tO (k:Nat) (kind:Int) (a_r:LC) (kids:LT) (I:Int×Int×BA×LC×LT->OS S):OS S:=I (kind,0,alH,a_r,kids)
def axm (k:Nat) (t:Tm) (I:Tm×Bool->OS S):OS S:=asP (af t.kids 3) fun x1=>ab (x1.kind==20) (asP (af t.kids 1) fun x2=>I ((ac x2),true)) (ab (x1.kind==21) (asP (af t.kids 2) fun x3=>asP (af t.kids 1) fun x4=>asP (af t.kids 1) fun x5=>aa k (tO k 13 x1.r [(ac x3),(ac x4),(ac x5)]) fun h=>I ((Tm.mk h.1 h.2.1 h.2.2.1 h.2.2.2.1 h.2.2.2.2 []),true)) (I ((Tm.mk 0 0 alH [] [] []),false)))
def axn (k:Nat) (t:Tm) (I:Tm×Bool->OS S):OS S:=asP (af t.kids 4) fun x1=>ab (x1.kind==24) (asP (af t.kids 1) fun x2=>I ((ac x2),true)) (ab (x1.kind==25) (asP (af t.kids 2) fun x3=>I ((ac x3),true)) (ab (x1.kind==26) (asP (af t.kids 3) fun x4=>asP (af x1.kids 0) fun x5=>aa k (zc k 6 [(ac x4),(ac x5)]) fun j=>asP (af t.kids 1) fun q=>asP (af t.kids 2) fun x=>aa k (tO k 13 x1.r [(Tm.mk j.1 j.2.1 j.2.2.1 [] j.2.2.2 []),(ac q),(ac x)]) fun h=>I ((Tm.mk h.1 h.2.1 h.2.2.1 h.2.2.2.1 h.2.2.2.2 []),true)) (I ((Tm.mk 0 0 alH [] [] []),false))))
def cD (k:Nat) (t:Tm) (c0:Int) (I:Tm×Bool×Int->OS S):OS S:=ab (t.kind==6) (asP (af t.kids 0) fun x1=>ab (x1.kind==5) (asP (af t.kids 0) fun x2=>asP (af x2.kids 0) fun x3=>asP (af t.kids 1) fun x4=>aa k (za k (ac x3) (ac x4) c0) fun r5=>I ((ac r5.1),true,r5.2)) (aa k (aJ k (ac t) c0) fun J=>I ((ac J.1),J.2.1,J.2.2))) (ab (t.kind==9) (asP (af t.kids 0) fun x7=>ab (x7.kind==8) (asP (af t.kids 0) fun x8=>asP (af x8.kids (su .i64 (t.kind-9))) fun x9=>I ((ac x9),true,c0)) (aa k (aJ k (ac t) c0) fun j=>I ((ac j.1),j.2.1,j.2.2))) (ab (t.kind==10) (asP (af t.kids 0) fun L=>ab (L.kind==8) (asP (af t.kids 0) fun M=>asP (af M.kids (su .i64 (t.kind-9))) fun O=>I ((ac O),true,c0)) (aa k (aJ k (ac t) c0) fun r14=>I ((ac r14.1),r14.2.1,r14.2.2))) (ab (t.kind==13) (aa k (cA k (ac t) c0) fun q=>I ((ac q.1),q.2.1,q.2.2)) (ab (t.kind==21) (aa k (bA k (ac t)) fun A=>I ((ac A.1),A.2,c0)) (ab (t.kind==26) (aa k (bA k (ac t)) fun B=>I ((ac B.1),B.2,c0)) (ab (t.kind==22) (aa k (axm k (ac t)) fun E=>I ((ac E.1),E.2,c0)) (ab (t.kind==27) (aa k (axn k (ac t)) fun F=>I ((ac F.1),F.2,c0)) (ab (t.kind==28) (asP (af t.kids 0) fun T=>I ((ac T),true,c0)) (ab (t.kind==14) (asP (af t.kids 1) fun W=>aa k (aW k t.r) fun Y=>I ((ac W),Y==1,c0)) (ab (t.kind==18) (aa k (aJ k (ac t) c0) fun h=>ab (h.2.1) (I ((ac h.1),true,h.2.2)) (asP (af t.kids 0) fun ad=>ab (ad.kind==17) (asP (af t.kids 0) fun ao=>asP (af ao.kids 0) fun ax=>I ((ac ax),true,h.2.2)) (aa k (aJ k (ac t) h.2.2) fun x=>I ((ac x.1),x.2.1,x.2.2)))) (aa k (aJ k (ac t) c0) fun z=>I ((ac z.1),z.2.1,z.2.2))))))))))))
def ly (k:Nat) (t:Tm) (c0:Int) (I:Tm×Bool×Int×Int->OS S):OS S:=aa k (asi k (ac t)) fun r1=>aa k (asH k (ac t) r1 c0) fun h=>dJ k (ac h.1) fun j=>aa k (dG k h.2) fun q=>I ((ac j),q,h.2,h.2)
def axl (k:Nat) (t:Tm) (I:Tm×Bool×Int->OS S):OS S:=aa k (asi k (ac t)) fun r1=>ab (!(r1==0)) (I ((Tm.mk 0 0 alH [] [] []),false,r1)) (dJ k (ac t) fun q=>aa k (cD k (ac q) 0) fun h=>ab (!h.2.1) (I ((Tm.mk 0 0 alH [] [] []),false,0)) (aa k (ly k (ac h.1) h.2.2) fun j=>I ((ac j.1),j.2.1,j.2.2.1)))
def anX (k:Nat) (t:Tm) (vars dims:Int) (I:Int->OS S):OS S:=ab (decide ((vars:Int)<0)) (I 2) (ab (decide ((dims:Int)<0)) (I 2) (ab (decide ((dims:Int)>24)) (I 2) (aa k (zD k (ac t)) fun r1=>ab (!(r1==0)) (I r1) (ic k (ac t) vars dims true fun h=>ab (!h) (I 100) (I 0)))))
def cr (k:Nat) (I:Tm×Bool->OS S) (t:Tm) (defs:List Df) (j:Int->OS S) (h:Int):OS S:=ab (decide ((h:Int)<(defs.length:Int))) (asP (af defs h) fun x1=>ab (x1.name==t.name) (dJ k (ac x1.body) fun q=>aa k (anX k (ac x1.body) 0 0) fun x=>I ((ac q),x==0)) (j (su .i64 (h+1)))) (I ((Tm.mk 0 0 alH [] [] []),false))
def bM (k:Nat) (I:Tm×Bool->OS S) (t:Tm) (defs:List Df):Nat->Int->OS S
 |0=>fun _=> .none
 |m+1=>fun h=>cr k I t defs (bM k I t defs m) h
def aAq (k:Nat) (I:Tm×Bool->OS S) (J0:Int->OS S) (defs:List Df) (t:Tm):OS S:=ab (!(t.kind==2)) (I ((Tm.mk 0 0 alH [] [] []),false)) (J0 0)
def cR (k:Nat) (defs:List Df) (t:Tm) (I:Tm×Bool->OS S):OS S:=aAq k I (fun h=>bM k I t defs k h) defs t
def arj (k:Nat) (kind:Int) (kids:LT) (I:Int×Int×BA×LT->OS S):OS S:=I (kind,0,alH,kids)
def avu (k:Nat) (sys:LB) (I:Int×Int×BA×LT×LB->OS S):OS S:=aa k (arj k 3 ([]:LT)) fun r1=>aa k (arj k 3 ([]:LT)) fun h=>I (15,0,alH,[(Tm.mk r1.1 r1.2.1 r1.2.2.1 [] r1.2.2.2 []),(Tm.mk h.1 h.2.1 h.2.2.1 [] h.2.2.2 [])],sys)
def iZ (k:Nat) (a_e c0:Int) (I:Int->OS S):OS S:=ab (c0==0) (I a_e) (I c0)
def wL (k:Nat) (I:Int->OS S) (l:LT) (h:Int->Int->OS S) (j v10:Int):OS S:=ab (decide ((v10:Int)<(l.length:Int))) (asP (af l v10) fun x1=>aa k (asi k (ac x1)) fun q=>aa k (iZ k q j) fun x=>h x (su .i64 (v10+1))) (I j)
def pY (k:Nat) (I:Int->OS S) (l:LT):Nat->Int->Int->OS S
 |0=>fun _ _=> .none
 |m+1=>fun h v10=>wL k I l (pY k I l m) h v10
def Hs (k:Nat) (I:Int->OS S) (J0:Int->Int->OS S) (l:LT):OS S:=J0 0 0
def m9 (k:Nat) (l:LT) (I:Int->OS S):OS S:=Hs k I (fun h v10=>pY k I l k h v10) l
def de (k:Nat) (c0:Int) (I:Bool->OS S):OS S:=I (c0==0)
def arP (k:Nat) (t:Tm) (vars dims c0:Int) (I:Tm×Int->OS S):OS S:=aa k (de k c0) fun r1=>ab (!r1) (I ((Tm.mk 0 0 alH [] [] []),c0)) (aa k (lu k (ac t) vars dims) fun h=>aa k (iZ k h.2 c0) fun j=>I ((ac h.1),j))
def eQ (k:Nat) (t:Tm) (c0:Int) (I:Tm×Int×Int->OS S):OS S:=aa k (de k c0) fun r1=>ab (r1) (aa k (asi k (ac t)) fun j=>aa k (iZ k j c0) fun h=>aa k (de k h) fun q=>ab (!q) (I ((Tm.mk 0 0 alH [] [] []),h,h)) (I ((ac t),0,h))) (aa k (de k c0) fun x=>ab (!x) (I ((Tm.mk 0 0 alH [] [] []),c0,c0)) (I ((ac t),0,c0)))
def tA (k:Nat) (f:LC) (c0:Int) (I:LC×Int->OS S):OS S:=aa k (de k c0) fun r1=>ab (!r1) (I (([]:LC),c0)) (aa k (jV k f 0 1) fun h=>aa k (iZ k h.2 c0) fun j=>I (h.1,j))
def yX (k:Nat) (c0:Int) (c1:Tm) (c2:Int) (I:Pan Int Tm->OS S):OS S:=dk k 0 c0 (ac c1) 0 (if 24<c2 then 24 else c2) fun h=>Pan.elim h (fun h=>I (.ok (ac h))) (fun j=>I (.pan j))
def xa (k:Nat) (I:Tm×Int->OS S) (c0:Int) (c1:Tm) (c2:Int) (numbers:List Int) (j:Int->OS S) (h:Int):OS S:=ab (decide ((h:Int)<(numbers.length:Int))) (asP (af numbers h) fun x2=>ab (decide ((x2:Int)<0)) (I ((Tm.mk 0 0 alH [] [] []),2)) (j (su .i64 (h+1)))) (aa k (yX k c0 (ac c1) c2) fun q=>Pan.elim q (fun q=>I ((ac q),0)) (fun x=>I ((Tm.mk 0 0 alH [] [] []),x)))
def nC (k:Nat) (I:Tm×Int->OS S) (c0:Int) (c1:Tm) (c2:Int) (numbers:List Int):Nat->Int->OS S
 |0=>fun _=> .none
 |m+1=>fun h=>xa k I c0 c1 c2 numbers (nC k I c0 c1 c2 numbers m) h
def BQ (k:Nat) (I:Tm×Int->OS S) (J0:Int->OS S) (t:Tm) (numbers:List Int) (c0:Int) (c1:Tm) (c2:Int):OS S:=aa k (asi k (ac t)) fun r1=>ab (!(r1==0)) (I ((Tm.mk 0 0 alH [] [] []),r1)) (J0 0)
def yZ (k:Nat) (t:Tm) (numbers:List Int) (c0:Int) (c1:Tm) (c2:Int) (I:Tm×Int->OS S):OS S:=BQ k I (fun h=>nC k I c0 c1 c2 numbers k h) t numbers c0 c1 c2
def lv (k:Nat) (t:Tm) (a_from a_by:Int) (I:Tm×Int->OS S):OS S:=aa k (yZ k (ac t) [a_from,a_by] a_by (ac t) a_from) fun r1=>I ((ac r1.1),r1.2)
def lr (k:Nat) (line:Tm) (a_r:LC) (c0:Int) (I:Tm×Int->OS S):OS S:=aa k (de k c0) fun r1=>ab (!r1) (I ((Tm.mk 0 0 alH [] [] []),c0)) (aa k (lv k (ac line) 1 2) fun j=>aa k (iZ k j.2 c0) fun h=>aa k (de k h) fun x=>ab (!x) (I ((Tm.mk 0 0 alH [] [] []),h)) (aa k (m_ k (ac j.1) 0 a_r) fun q=>aa k (iZ k q.2 h) fun z=>I ((ac q.1),z)))
def oQ (k:Nat) (I:Tm×Int->OS S) (a:Tm) (q:Int×Int×BA×LT) (sys:LB) (B:Int->(LB)->Int->OS S) (j:Int) (h:LB) (x:Int):OS S:=ab (decide ((x:Int)<(sys.length:Int))) (asP (af sys x) fun x6=>aa k (de k j) fun M=>ab (!M) (aa k (arP k (ac a) 0 2 j) fun J=>asP (aw 1099511627776 h.length [(Br.mk [(Cl.mk 0 1)] [(ac J.1)])].length) fun W=>aa k (eQ k (Tm.mk q.1 q.2.1 q.2.2.1 [] q.2.2.2 (h++[(Br.mk [(Cl.mk 0 1)] [(ac J.1)])])) J.2) fun E=>I ((ac E.1),E.2.1)) (aa k (tA k x6.face j) fun z=>asP (af x6.kids 0) fun L=>aa k (lr k (ac L) [(Cl.mk 3 0)] z.2) fun r13=>asP (aw 1099511627776 h.length [(Br.mk z.1 [(ac r13.1)])].length) fun O=>B r13.2 (h++[(Br.mk z.1 [(ac r13.1)])]) (su .i64 (x+1)))) (aa k (arP k (ac a) 0 2 j) fun A=>asP (aw 1099511627776 h.length [(Br.mk [(Cl.mk 0 1)] [(ac A.1)])].length) fun T=>aa k (eQ k (Tm.mk q.1 q.2.1 q.2.2.1 [] q.2.2.2 (h++[(Br.mk [(Cl.mk 0 1)] [(ac A.1)])])) A.2) fun F=>I ((ac F.1),F.2.1))
def gM (k:Nat) (I:Tm×Int->OS S) (a:Tm) (x:Int×Int×BA×LT) (sys:LB):Nat->Int->(LB)->Int->OS S
 |0=>fun _ _ _=> .none
 |m+1=>fun j h q=>oQ k I a x sys (gM k I a x sys m) j h q
def Hr (k:Nat) (I:Tm×Int->OS S) (J0:(Int×Int×BA×LT)->Int->(LB)->Int->OS S) (t a:Tm) (sys:LB):OS S:=aa k (avu k sys) fun r1=>aa k (m9 k [(ac t),(ac a),(Tm.mk r1.1 r1.2.1 r1.2.2.1 [] r1.2.2.2.1 r1.2.2.2.2)]) fun q=>aa k (arP k (ac t) 0 1 q) fun h=>aa k (arP k (ac a) 0 1 h.2) fun j=>aa k (arj k 15 [(ac h.1),(ac j.1)]) fun x=>J0 x j.2 ([]:LB) 0
def yy (k:Nat) (t a:Tm) (sys:LB) (I:Tm×Int->OS S):OS S:=Hr k I (fun x j h q=>gM k I a x sys k j h q) t a sys
def y_ (k:Nat) (t a:Tm) (sys:LB) (c0:Int) (I:Tm×Int->OS S):OS S:=aa k (dG k c0) fun r1=>ab (!r1) (I ((Tm.mk 0 0 alH [] [] []),c0)) (aa k (yy k (ac t) (ac a) sys) fun h=>aa k (asH k (ac h.1) h.2 c0) fun j=>I ((ac j.1),j.2))
def yY (k:Nat) (c0:Int) (c1:Tm) (c2:Int) (I:Pan Int Tm->OS S):OS S:=dk k c0 0 (ac c1) (if 2000000000<c2 then 2000000000 else c2) 0 fun h=>Pan.elim h (fun h=>I (.ok (ac h))) (fun j=>I (.pan j))
def xb (k:Nat) (I:Tm×Int->OS S) (c0:Int) (c1:Tm) (c2:Int) (numbers:List Int) (j:Int->OS S) (h:Int):OS S:=ab (decide ((h:Int)<(numbers.length:Int))) (asP (af numbers h) fun x2=>ab (decide ((x2:Int)<0)) (I ((Tm.mk 0 0 alH [] [] []),2)) (j (su .i64 (h+1)))) (aa k (yY k c0 (ac c1) c2) fun q=>Pan.elim q (fun q=>I ((ac q),0)) (fun x=>I ((Tm.mk 0 0 alH [] [] []),x)))
def nD (k:Nat) (I:Tm×Int->OS S) (c0:Int) (c1:Tm) (c2:Int) (numbers:List Int):Nat->Int->OS S
 |0=>fun _=> .none
 |m+1=>fun h=>xb k I c0 c1 c2 numbers (nD k I c0 c1 c2 numbers m) h
def BR (k:Nat) (I:Tm×Int->OS S) (J0:Int->OS S) (t:Tm) (numbers:List Int) (c0:Int) (c1:Tm) (c2:Int):OS S:=aa k (asi k (ac t)) fun r1=>ab (!(r1==0)) (I ((Tm.mk 0 0 alH [] [] []),r1)) (J0 0)
def axS (k:Nat) (t:Tm) (numbers:List Int) (c0:Int) (c1:Tm) (c2:Int) (I:Tm×Int->OS S):OS S:=BR k I (fun h=>nD k I c0 c1 c2 numbers k h) t numbers c0 c1 c2
def avD (k:Nat) (t:Tm) (a_from a_by:Int) (I:Tm×Int->OS S):OS S:=aa k (axS k (ac t) [a_from,a_by,su .i64 (1000000-a_by)] a_by (ac t) a_from) fun r1=>I ((ac r1.1),r1.2)
def y8 (k:Nat) (t:Tm) (vars dims c0:Int) (I:Tm×Int->OS S):OS S:=aa k (dG k c0) fun r1=>ab (!r1) (I ((Tm.mk 0 0 alH [] [] []),c0)) (aa k (avD k (ac t) 1 vars) fun j=>aa k (asH k (ac j.1) j.2 c0) fun h=>aa k (dG k h.2) fun z=>ab (!z) (I ((Tm.mk 0 0 alH [] [] []),h.2)) (aa k (lv k (ac h.1) 0 dims) fun q=>aa k (asH k (ac q.1) q.2 h.2) fun x=>I ((ac x.1),x.2)))
def zb (k:Nat) (t:Tm) (vars dims c0:Int) (I:Tm×Int->OS S):OS S:=aa k (dG k c0) fun r1=>ab (!r1) (I ((Tm.mk 0 0 alH [] [] []),c0)) (aa k (lu k (ac t) vars dims) fun h=>aa k (asH k (ac h.1) h.2 c0) fun j=>I ((ac j.1),j.2))
def aBi (k:Nat) (I:Int×Int×BA×LT×Int->OS S) (c0:Tm) (c1:Int) (a_x:Tm) (a_by:Int) (j:Int->(LT)->Int->OS S) (q:Int) (h:LT) (v20:Int):OS S:=ab (decide ((v20:Int)<((List.drop (arM 1) (List.take (arM c1) c0.kids)).length:Int))) (asP (af (List.drop (arM 1) (List.take (arM c1) c0.kids)) v20) fun x2=>ab (decide ((a_by:Int)>0)) (aa k (zb k (ac x2) 0 a_by q) fun z=>asP (aw 1099511627776 h.length [(ac z.1)].length) fun x4=>j z.2 (h++[(ac z.1)]) (su .i64 (v20+1))) (asP (aw 1099511627776 h.length [(ac x2)].length) fun x5=>j q (h++[(ac x2)]) (su .i64 (v20+1)))) (asP (aw 1099511627776 h.length [(ac a_x)].length) fun x6=>aa k (zc k c0.kind (h++[(ac a_x)])) fun x=>I (x.1,x.2.1,x.2.2.1,x.2.2.2,q))
def auv (k:Nat) (I:Int×Int×BA×LT×Int->OS S) (c0:Tm) (c1:Int) (a_x:Tm) (a_by:Int):Nat->Int->(LT)->Int->OS S
 |0=>fun _ _ _=> .none
 |m+1=>fun j h v20=>aBi k I c0 c1 a_x a_by (auv k I c0 c1 a_x a_by m) j h v20
def BP (k:Nat) (I:Int×Int×BA×LT×Int->OS S) (J0:Int->(LT)->Int->OS S) (p:Tm) (a_by:Int) (a_x c0:Tm) (c1 c3:Int):OS S:=asP (bR (0<=(1:Int)/\(1:Int)<=c1/\c1<=(c0.kids.length:Int))) fun x1=>J0 c3 [(ac p)] 0
def nc (k:Nat) (p:Tm) (a_by:Int) (a_x c0:Tm) (c1 c3:Int) (I:Int×Int×BA×LT×Int->OS S):OS S:=BP k I (fun j h v20=>auv k I c0 c1 a_x a_by k j h v20) p a_by a_x c0 c1 c3
def aq3 (k:Nat) (f:LC) (kids:LT) (I:(Br Tm)->OS S):OS S:=I (Br.mk f kids)
def yz (k:Nat) (line:Tm) (c0:Int) (I:Tm×Int->OS S):OS S:=aa k (de k c0) fun r1=>ab (!r1) (I ((Tm.mk 0 0 alH [] [] []),c0)) (aa k (au3 k) fun j=>aa k (m_ k (ac line) 0 j) fun h=>aa k (iZ k h.2 c0) fun q=>I ((ac h.1),q))
def oP (k:Nat) (I:Tm×Int->OS S) (r3:Tm) (r9:Int×Int×BA×LT) (r6:Tm) (z:Int->(LB)->Int->OS S) (q:Int) (j:LB) (v38:Int):OS S:=ab (decide ((v38:Int)<(r6.sys.length:Int))) (asP (af r6.sys v38) fun x=>aa k (de k q) fun E=>ab (!E) (aa k (eQ k (Tm.mk r9.1 r9.2.1 r9.2.2.1 [] r9.2.2.2 j) q) fun A=>I ((ac A.1),A.2.1)) (aa k (lr k (ac r3) [(Cl.mk 1 0),(Cl.mk 2 0)] q) fun r13=>asP (af x.kids 0) fun F=>aa k (arj k 14 [(ac r13.1),(ac F)]) fun h=>asP (aw 1099511627776 j.length [(Br.mk x.face [(Tm.mk h.1 h.2.1 h.2.2.1 [(Cl.mk 1 0)] h.2.2.2 [])])].length) fun J=>z r13.2 (j++[(Br.mk x.face [(Tm.mk h.1 h.2.1 h.2.2.1 [(Cl.mk 1 0)] h.2.2.2 [])])]) (su .i64 (v38+1)))) (aa k (eQ k (Tm.mk r9.1 r9.2.1 r9.2.2.1 [] r9.2.2.2 j) q) fun B=>I ((ac B.1),B.2.1))
def ko (k:Nat) (I:Tm×Int->OS S) (r3:Tm) (r9:Int×Int×BA×LT) (r6:Tm):Nat->Int->(LB)->Int->OS S
 |0=>fun _ _ _=> .none
 |m+1=>fun j h v38=>oP k I r3 r9 r6 (ko k I r3 r9 r6 m) j h v38
def Hq (k:Nat) (I:Tm×Int->OS S) (J0:Tm->(Int×Int×BA×LT)->Tm->Int->(LB)->Int->OS S) (line a:Tm) (sys:LB):OS S:=aa k (avu k sys) fun r1=>aa k (m9 k [(ac line),(ac a),(Tm.mk r1.1 r1.2.1 r1.2.2.1 [] r1.2.2.2.1 r1.2.2.2.2)]) fun z=>dJ k (ac line) fun q=>dJ k (ac a) fun A=>aa k (avu k sys) fun h=>dJ k (Tm.mk h.1 h.2.1 h.2.2.1 [] h.2.2.2.1 h.2.2.2.2) fun B=>aa k (yz k (ac q) z) fun x=>aa k (arj k 14 [(ac q),(ac A)]) fun j=>aa k (arj k 15 [(ac x.1),(Tm.mk j.1 j.2.1 j.2.2.1 [] j.2.2.2 [])]) fun E=>J0 q E B x.2 ([]:LB) 0
def yx (k:Nat) (line a:Tm) (sys:LB) (I:Tm×Int->OS S):OS S:=Hq k I (fun q x z j h v38=>ko k I q x z k j h v38) line a sys
def y9 (k:Nat) (line a:Tm) (sys:LB) (c0:Int) (I:Tm×Int->OS S):OS S:=aa k (dG k c0) fun r1=>ab (!r1) (I ((Tm.mk 0 0 alH [] [] []),c0)) (aa k (yx k (ac line) (ac a) sys) fun h=>aa k (asH k (ac h.1) h.2 c0) fun j=>I ((ac j.1),j.2))
def oR (k:Nat) (I:Tm×Bool×Int->OS S) (r3:Tm) (r9 r10:Tm×Int) (r13:Int×Int×BA×LT×Int) (t x4:Tm) (x:Int->(LB)->Int->OS S) (z:Int) (h:LB) (v90:Int):OS S:=ab (decide ((v90:Int)<(x4.sys.length:Int))) (asP (af x4.sys v90) fun A=>asP (af A.kids 0) fun F=>aa k (nc k (ac r9.1) 1 (ac F) (ac r3) (su .i64 ((t.kids.length:Int)-1)) z) fun j=>aa k (aq3 k A.face [(Tm.mk j.1 j.2.1 j.2.2.1 [] j.2.2.2.1 [])]) fun B=>asP (aw 1099511627776 h.length [B].length) fun J=>x j.2.2.2.2 (h++[B]) (su .i64 (v90+1))) (aa k (y9 k (ac r10.1) (Tm.mk r13.1 r13.2.1 r13.2.2.1 [] r13.2.2.2.1 []) h z) fun E=>aa k (ly k (ac E.1) E.2) fun q=>I ((ac q.1),q.2.1,q.2.2.1))
def fX (k:Nat) (I:Tm×Bool×Int->OS S) (r3:Tm) (r9 r10:Tm×Int) (r13:Int×Int×BA×LT×Int) (t x4:Tm):Nat->Int->(LB)->Int->OS S
 |0=>fun _ _ _=> .none
 |m+1=>fun j h q=>oR k I r3 r9 r10 r13 t x4 (fX k I r3 r9 r10 r13 t x4 m) j h q
def w_ (k:Nat) (I:Tm×Bool×Int->OS S) (t:Tm) (J1:Tm->(Tm×Int)->(Tm×Int)->(Int×Int×BA×LT×Int)->Tm->Int->(LB)->Int->OS S):OS S:=dJ k (ac t) fun h=>asP (af h.kids (su .i64 ((t.kids.length:Int)-1))) fun x4=>asP (af x4.kids 0) fun x5=>asP (af x4.kids 1) fun x6=>aa k (y_ k (ac x5) (ac x6) x4.sys 0) fun A=>asP (af h.kids 0) fun B=>aa k (y8 k (ac B) 0 1 A.2) fun q=>aa k (za k (ac q.1) (ac A.1) q.2) fun j=>asP (af h.kids 0) fun x=>asP (af x4.kids 1) fun z=>aa k (nc k (ac x) 0 (ac z) (ac h) (su .i64 ((t.kids.length:Int)-1)) j.2) fun r13=>J1 h q j r13 x4 r13.2.2.2.2 ([]:LB) 0
def l6 (k:Nat) (I:Tm×Bool×Int->OS S) (t:Tm):Nat->OS S
 |0=> .none
 |_+1=>w_ k I t (fun z A j r13 x4 q h x=>fX k I z A j r13 t x4 k q h x)
def HU (k:Nat) (I:Tm×Bool×Int->OS S) (J0:OS S) (t:Tm):OS S:=aa k (asi k (ac t)) fun r1=>ab (!(r1==0)) (I ((Tm.mk 0 0 alH [] [] []),false,r1)) (ab (!(t.kind==22)) (ab (!(t.kind==27)) (I ((Tm.mk 0 0 alH [] [] []),false,0)) (asP (af t.kids (su .i64 ((t.kids.length:Int)-1))) fun x2=>ab (!(x2.kind==15)) (I ((Tm.mk 0 0 alH [] [] []),false,0)) (J0))) (asP (af t.kids (su .i64 ((t.kids.length:Int)-1))) fun h=>ab (!(h.kind==15)) (I ((Tm.mk 0 0 alH [] [] []),false,0)) (J0)))
def tL (k:Nat) (t:Tm) (I:Tm×Bool×Int->OS S):OS S:=HU k I (l6 k I t k) t
def au5 (k:Nat) (a_n:Int) (I:Int×Int×BA->OS S):OS S:=I (1,a_n,alH)
def aw2 (k:Nat) (I:Int->OS S) (l:List (LC)) (h:Int->OS S) (j:Int):OS S:=ab (decide ((j:Int)<(l.length:Int))) (asP (af l j) fun x1=>aa k (pd k x1) fun q=>ab (!q) (I 2) (h (su .i64 (j+1)))) (I 0)
def avO (k:Nat) (I:Int->OS S) (l:List (LC)):Nat->Int->OS S
 |0=>fun _=> .none
 |m+1=>fun h=>aw2 k I l (avO k I l m) h
def az8 (k:Nat) (I:Int->OS S) (J0:Int->OS S) (l:List (LC)):OS S:=J0 0
def axw (k:Nat) (l:List (LC)) (I:Int->OS S):OS S:=az8 k I (fun h=>avO k I l k h) l
def axv (k:Nat) (f g:LC) (I:LC×Int->OS S):OS S:=aa k (axw k [f,g]) fun r1=>ab (!(r1==0)) (I (([]:LC),r1)) (aa k (yL k f g) fun h=>I (h.1,h.2))
def auH (k:Nat) (f g:LC) (c0:Int) (I:LC×Int->OS S):OS S:=aa k (de k c0) fun r1=>ab (!r1) (I (([]:LC),c0)) (aa k (axv k f g) fun h=>aa k (iZ k h.2 c0) fun j=>I (h.1,j))
def awn (k:Nat) (line:Tm) (phi:LC) (a:Tm) (a_end:Cl) (a_r:LC) (I:Tm×Int->OS S):OS S:=aa k (m9 k [(ac line),(ac a)]) fun r1=>aa k (pd k phi) fun L=>ab (!L) (aa k (iZ k 2 r1) fun M=>aa k (tA k phi M) fun A=>aa k (auH k A.1 [a_end] A.2) fun B=>aa k (lr k (ac line) a_r B.2) fun E=>aa k (arP k (ac a) 0 1 E.2) fun F=>aa k (arj k 14 [(ac E.1),(ac F.1)]) fun z=>aa k (eQ k (Tm.mk z.1 z.2.1 z.2.2.1 B.1 z.2.2.2 []) F.2) fun J=>I ((ac J.1),J.2.1)) (aa k (tA k phi r1) fun h=>aa k (auH k h.1 [a_end] h.2) fun j=>aa k (lr k (ac line) a_r j.2) fun q=>aa k (arP k (ac a) 0 1 q.2) fun r13=>aa k (arj k 14 [(ac q.1),(ac r13.1)]) fun r14=>aa k (eQ k (Tm.mk r14.1 r14.2.1 r14.2.2.1 j.1 r14.2.2.2 []) r13.2) fun x=>I ((ac x.1),x.2.1))
def axo (k:Nat) (line:Tm) (phi:LC) (a:Tm) (I:Tm×Int->OS S):OS S:=aa k (awn k (ac line) phi (ac a) (Cl.mk 1 0) [(Cl.mk 0 1),(Cl.mk 2 0)]) fun r1=>I ((ac r1.1),r1.2)
def axU (k:Nat) (line:Tm) (phi:LC) (a:Tm) (c0:Int) (I:Tm×Int->OS S):OS S:=aa k (dG k c0) fun r1=>ab (!r1) (I ((Tm.mk 0 0 alH [] [] []),c0)) (aa k (axo k (ac line) phi (ac a)) fun h=>aa k (asH k (ac h.1) h.2 c0) fun j=>I ((ac j.1),j.2))
def aup (k:Nat) (line a:Tm) (alJ:Int) (c0_1:LC) (sx wl:Int) (aas:BA) (abq:LC) (abZ:LT) (c0_7:LB) (I:Int×Int×BA×LC×LT->OS S):OS S:=aa k (tO k 14 c0_1 [(ac line),(ac a)]) fun r1=>I (r1.1,r1.2.1,r1.2.2.1,r1.2.2.2.1,r1.2.2.2.2)
def ax2 (k:Nat) (l:Tm) (alJ:Int) (c0_1:LC) (sx wl:Int) (aas:BA) (abq:LC) (abZ:LT) (c0_7:LB) (I:Int×Int×BA×LT×Int->OS S):OS S:=asP (af l.kids 0) fun x1=>aa k (zb k (ac x1) 1 0 alJ) fun B=>aa k (au5 k 0) fun x=>aa k (axU k (ac B.1) c0_1 (Tm.mk x.1 x.2.1 x.2.2 [] [] []) B.2) fun z=>asP (af l.kids 1) fun x5=>aa k (y8 k (ac x5) 1 0 z.2) fun E=>aa k (za k (ac E.1) (ac z.1) E.2) fun F=>aa k (zb k (Tm.mk sx wl aas abq abZ c0_7) 1 0 F.2) fun J=>aa k (JL k (ac z.1) ([]:LC) J.2) fun A=>aa k (zc k 6 [(ac J.1),(ac A.1)]) fun j=>aa k (aup k (ac F.1) (Tm.mk j.1 j.2.1 j.2.2.1 [] j.2.2.2 []) A.2 c0_1 sx wl aas abq abZ c0_7) fun h=>aa k (zc k 5 [(Tm.mk h.1 h.2.1 h.2.2.1 h.2.2.2.1 h.2.2.2.2 [])]) fun q=>I (q.1,q.2.1,q.2.2.1,q.2.2.2,A.2)
def axs (k:Nat) (line:Tm) (phi:LC) (a:Tm) (I:Tm×Int->OS S):OS S:=aa k (awn k (ac line) phi (ac a) (Cl.mk 0 1) [(Cl.mk 3 0)]) fun r1=>I ((ac r1.1),r1.2)
def awu (k:Nat) (line:Tm) (phi:LC) (a:Tm) (c0:Int) (I:Tm×Int->OS S):OS S:=aa k (dG k c0) fun r1=>ab (!r1) (I ((Tm.mk 0 0 alH [] [] []),c0)) (aa k (axs k (ac line) phi (ac a)) fun h=>aa k (asH k (ac h.1) h.2 c0) fun j=>I ((ac j.1),j.2))
def ax3 (k:Nat) (l:Tm) (alJ:Int) (c0_1:LC) (sx wl:Int) (aas:BA) (abq:LC) (abZ:LT) (c0_7:LB) (I:Int×Int×BA×LT×Int->OS S):OS S:=aa k (zc k 9 [(Tm.mk sx wl aas abq abZ c0_7)]) fun r1=>asP (af l.kids 1) fun x2=>asP (af l.kids 0) fun x3=>aa k (awu k (ac x3) c0_1 (Tm.mk r1.1 r1.2.1 r1.2.2.1 [] r1.2.2.2 []) alJ) fun A=>aa k (za k (ac x2) (ac A.1) A.2) fun x=>asP (af l.kids 0) fun x6=>aa k (aup k (ac x6) (Tm.mk r1.1 r1.2.1 r1.2.2.1 [] r1.2.2.2 []) x.2 c0_1 sx wl aas abq abZ c0_7) fun j=>aa k (zc k 10 [(Tm.mk sx wl aas abq abZ c0_7)]) fun z=>aa k (aup k (ac x.1) (Tm.mk z.1 z.2.1 z.2.2.1 [] z.2.2.2 []) x.2 c0_1 sx wl aas abq abZ c0_7) fun q=>aa k (zc k 8 [(Tm.mk j.1 j.2.1 j.2.2.1 j.2.2.2.1 j.2.2.2.2 []),(Tm.mk q.1 q.2.1 q.2.2.1 q.2.2.2.1 q.2.2.2.2 [])]) fun h=>I (h.1,h.2.1,h.2.2.1,h.2.2.2,x.2)
def ax0 (k:Nat) (t:Tm) (I:Tm×Int->OS S):OS S:=aa k (lv k (ac t) 2 1) fun r1=>ab (!(r1.2==0)) (I ((Tm.mk 0 0 alH [] [] []),r1.2)) (aa k (m_ k (ac r1.1) 0 [(Cl.mk 2 0)]) fun h=>I ((ac h.1),h.2))
def ax4 (k:Nat) (t:Tm) (alJ:Int) (c0_1:LC) (sx wl:Int) (aas:BA) (abq:LC) (abZ:LT) (c0_7:LB) (I:Tm×Int->OS S):OS S:=ab (!(alJ==0)) (I ((Tm.mk 0 0 alH [] [] []),alJ)) (aa k (ax0 k (ac t)) fun r1=>I ((ac r1.1),r1.2))
def aww (k:Nat) (a_by:Int) (a_r:Cl) (c1 c2:Tm) (arG:Int) (aqT:LC) (aqM aqN:Int) (aqO:BA) (aqP:LC) (aqQ:LT) (aqR:LB) (I:Int×Int×BA×LC×LT×Int->OS S):OS S:=aa k (zb k (Tm.mk aqM aqN aqO aqP aqQ aqR) 0 a_by arG) fun r1=>aa k (zb k (ac c1) 0 a_by r1.2) fun j=>aa k (zb k (ac c2) 0 a_by j.2) fun q=>aa k (tO k 13 [a_r] [(ac r1.1),(ac j.1),(ac q.1)]) fun h=>I (h.1,h.2.1,h.2.2.1,h.2.2.2.1,h.2.2.2.2,q.2)
def JK (k:Nat) (f:LC) (a_by c0:Int) (I:LC×Int->OS S):OS S:=aa k (dG k c0) fun r1=>ab (!r1) (I (([]:LC),c0)) (aa k (jV k f 0 a_by) fun h=>aa k (asH k (Tm.mk 0 0 alH [] [] []) h.2 c0) fun j=>I (h.1,j.2))
def JJ (k:Nat) (t:Tm) (a_by c0:Int) (I:Tm×Int->OS S):OS S:=aa k (dG k c0) fun r1=>ab (!r1) (I ((Tm.mk 0 0 alH [] [] []),c0)) (aa k (lv k (ac t) 1 a_by) fun h=>aa k (asH k (ac h.1) h.2 c0) fun j=>I ((ac j.1),j.2))
def ax1 (k:Nat) (l:Tm) (alJ:Int) (c0_1:LC) (sx wl:Int) (aas:BA) (abq:LC) (abZ:LT) (c0_7:LB) (I:Int×Int×BA×LT×Int->OS S):OS S:=asP (af l.kids 1) fun x1=>aa k (JL k (ac x1) ([]:LC) alJ) fun T=>asP (af l.kids 2) fun x3=>aa k (JL k (ac x3) ([]:LC) T.2) fun W=>asP (af l.kids 0) fun x5=>aa k (ax4 k (ac x5) W.2 c0_1 sx wl aas abq abZ c0_7) fun Y=>aa k (aww k 1 (Cl.mk 1 0) (ac T.1) (ac W.1) Y.2 c0_1 sx wl aas abq abZ c0_7) fun h=>ab (decide (((c0_1.length:Int):Int)>0)) (aa k (JK k c0_1 1 h.2.2.2.2.2) fun r8=>aa k (aww k 2 (Cl.mk 2 0) (ac T.1) (ac W.1) r8.2 c0_1 sx wl aas abq abZ c0_7) fun A=>aa k (aq3 k r8.1 [(Tm.mk A.1 A.2.1 A.2.2.1 A.2.2.2.1 A.2.2.2.2.1 [])]) fun j=>asP (aw 1099511627776 0 [j].length) fun a6=>asP (af l.kids 1) fun ad=>aa k (JJ k (ac ad) 1 A.2.2.2.2.2) fun r13=>aa k (aq3 k [(Cl.mk 0 1)] [(ac r13.1)]) fun r14=>asP (aw 1099511627776 [j].length [r14].length) fun a7=>asP (af l.kids 2) fun ao=>aa k (JJ k (ac ao) 1 r13.2) fun B=>aa k (aq3 k [(Cl.mk 1 0)] [(ac B.1)]) fun E=>asP (aw 1099511627776 ([j]++[r14]).length [E].length) fun a8=>aa k (y9 k (ac Y.1) (Tm.mk h.1 h.2.1 h.2.2.1 h.2.2.2.1 h.2.2.2.2.1 []) (([j]++[r14])++[E]) B.2) fun F=>aa k (zc k 12 [(ac F.1)]) fun q=>I (q.1,q.2.1,q.2.2.1,q.2.2.2,F.2)) (asP (af l.kids 1) fun ax=>aa k (JJ k (ac ax) 1 h.2.2.2.2.2) fun J=>aa k (aq3 k [(Cl.mk 0 1)] [(ac J.1)]) fun z=>asP (aw 1099511627776 0 [z].length) fun bc=>asP (af l.kids 2) fun az=>aa k (JJ k (ac az) 1 J.2) fun L=>aa k (aq3 k [(Cl.mk 1 0)] [(ac L.1)]) fun M=>asP (aw 1099511627776 [z].length [M].length) fun bf=>aa k (y9 k (ac Y.1) (Tm.mk h.1 h.2.1 h.2.2.1 h.2.2.2.1 h.2.2.2.2.1 []) ([z]++[M]) L.2) fun O=>aa k (zc k 12 [(ac O.1)]) fun x=>I (x.1,x.2.1,x.2.2.1,x.2.2.2,O.2))
def JM (k:Nat) (kind:Int) (l:LB) (kids:LT) (I:Int×Int×BA×LT×LB->OS S):OS S:=I (kind,0,alH,kids,l)
def Jp (k:Nat) (I:Tm×Bool×Int->OS S) (r3:Tm) (j:Int×Int×BA×LC×LT) (x4:Tm) (r13:Tm×Int) (x5:Tm) (B:Int->(LB)->Int->OS S) (E:Int) (h:LB) (z:Int):OS S:=ab (decide ((z:Int)<(x5.sys.length:Int))) (asP (af x5.sys z) fun F=>aa k (JK k r3.r 1 E) fun J=>aa k (JJ k (ac x4) 1 J.2) fun L=>asP (af F.kids 0) fun O=>aa k (tO k 14 J.1 [(ac L.1),(ac O)]) fun q=>aa k (aq3 k F.face [(Tm.mk q.1 q.2.1 q.2.2.1 q.2.2.2.1 q.2.2.2.2 [])]) fun M=>asP (aw 1099511627776 h.length [M].length) fun T=>B L.2 (h++[M]) (su .i64 (z+1))) (aa k (JM k 15 h [(ac r13.1),(Tm.mk j.1 j.2.1 j.2.2.1 j.2.2.2.1 j.2.2.2.2 [])]) fun x=>aa k (ly k (Tm.mk x.1 x.2.1 x.2.2.1 [] x.2.2.2.1 x.2.2.2.2) E) fun A=>I ((ac A.1),A.2.1,A.2.2.1))
def E7 (k:Nat) (I:Tm×Bool×Int->OS S) (r3:Tm) (j:Int×Int×BA×LC×LT) (x4:Tm) (r13:Tm×Int) (x5:Tm):Nat->Int->(LB)->Int->OS S
 |0=>fun _ _ _=> .none
 |m+1=>fun q h x=>Jp k I r3 j x4 r13 x5 (E7 k I r3 j x4 r13 x5 m) q h x
def SP (k:Nat) (I:Tm×Bool×Int->OS S) (J0:Tm->(Int×Int×BA×LC×LT)->Tm->(Tm×Int)->Tm->Int->(LB)->Int->OS S) (t:Tm):OS S:=aa k (asi k (ac t)) fun r1=>ab (!(r1==0)) (I ((Tm.mk 0 0 alH [] [] []),false,r1)) (ab (!(t.kind==14)) (I ((Tm.mk 0 0 alH [] [] []),false,0)) (asP (af t.kids 0) fun x2=>ab (!(x2.kind==23)) (I ((Tm.mk 0 0 alH [] [] []),false,0)) (dJ k (ac t) fun x=>asP (af x.kids 0) fun x4=>asP (af x.kids 1) fun x5=>ab (x5.kind==24) (aa k (ly k (ac x5) 0) fun z=>I ((ac z.1),z.2.1,z.2.2.1)) (ab (x5.kind==25) (aa k (ly k (ac x5) 0) fun A=>I ((ac A.1),A.2.1,A.2.2.1)) (ab (x5.kind==26) (asP (af x4.kids 0) fun F=>asP (af x5.kids 0) fun J=>aa k (tO k 14 x.r [(ac F),(ac J)]) fun h=>aa k (tO k 26 x5.r [(Tm.mk h.1 h.2.1 h.2.2.1 h.2.2.2.1 h.2.2.2.2 [])]) fun j=>aa k (ly k (Tm.mk j.1 j.2.1 j.2.2.1 j.2.2.2.1 j.2.2.2.2 []) 0) fun q=>I ((ac q.1),q.2.1,q.2.2.1)) (ab (x5.kind==15) (aa k (JI k (ac x4) 0) fun r13=>asP (af x5.kids 1) fun B=>aa k (tO k 14 x.r [(ac x4),(ac B)]) fun E=>J0 x E x4 r13 x5 r13.2 ([]:LB) 0) (I ((Tm.mk 0 0 alH [] [] []),false,0))))))))
def JG (k:Nat) (t:Tm) (I:Tm×Bool×Int->OS S):OS S:=SP k I (fun z j x4 r13 x5 q h x=>E7 k I z j x4 r13 x5 k q h x) t
def ay_ (k:Nat) (b:(Br Tm)) (I:(Br Tm)->OS S):OS S:=asP (af b.kids 1) fun x1=>aa k (aq3 k b.face [(ac x1)]) fun h=>I h
def aw_ (k:Nat) (I:LB->OS S) (l:LB) (j:Int->(LB)->OS S) (v10:Int) (h:LB):OS S:=ab (decide ((v10:Int)<(l.length:Int))) (asP (af l v10) fun x1=>aa k (ay_ k x1) fun q=>asP (aw 1099511627776 h.length [q].length) fun x3=>j (su .i64 (v10+1)) (h++[q])) (I h)
def avV (k:Nat) (I:LB->OS S) (l:LB):Nat->Int->(LB)->OS S
 |0=>fun _ _=> .none
 |m+1=>fun v10 h=>aw_ k I l (avV k I l m) v10 h
def ayK (k:Nat) (I:LB->OS S) (J0:Int->(LB)->OS S) (l:LB):OS S:=J0 0 ([]:LB)
def axE (k:Nat) (l:LB) (I:LB->OS S):OS S:=ayK k I (fun v10 h=>avV k I l k v10 h) l
def au4 (k:Nat) (g:Tm) (I:LB->OS S):OS S:=aa k (axE k g.sys) fun r1=>I r1
def aun (k:Nat) (a:Tm) (es:LB) (I:Int×Int×BA×LT×LB->OS S):OS S:=aa k (JM k 18 es [(ac a)]) fun r1=>I (r1.1,r1.2.1,r1.2.2.1,r1.2.2.2.1,r1.2.2.2.2)
def ay3 (k:Nat) (c:Cl) (c0:Int) (I:Cl×Bool->OS S):OS S:=aa k (amz k (bj .or .u32 c.pos c.neg) c0) fun r1=>I (c,!r1)
def aw1 (k:Nat) (I:LC->OS S) (c0:Int) (l:LC) (j:Int->(LC)->OS S) (v12:Int) (h:LC):OS S:=ab (decide ((v12:Int)<(l.length:Int))) (asP (af l v12) fun x1=>aa k (ay3 k x1 c0) fun q=>ab (q.2) (asP (aw 1099511627776 h.length [q.1].length) fun x3=>j (su .i64 (v12+1)) (h++[q.1])) (j (su .i64 (v12+1)) h)) (I h)
def avN (k:Nat) (I:LC->OS S) (c0:Int) (l:LC):Nat->Int->(LC)->OS S
 |0=>fun _ _=> .none
 |m+1=>fun v12 h=>aw1 k I c0 l (avN k I c0 l m) v12 h
def az7 (k:Nat) (I:LC->OS S) (J0:Int->(LC)->OS S) (l:LC) (c0:Int):OS S:=J0 0 ([]:LC)
def ay4 (k:Nat) (l:LC) (c0:Int) (I:LC->OS S):OS S:=az7 k I (fun v12 h=>avN k I c0 l k v12 h) l c0
def axu (k:Nat) (f:LC) (i:Int) (I:LC×Int->OS S):OS S:=aa k (pd k f) fun r1=>ab (!r1) (I (([]:LC),2)) (aa k (yK k i) fun j=>ab (!j) (I (([]:LC),2)) (aa k (ay4 k f i) fun q=>aa k (gy k q) fun h=>I (h.1,h.2)))
def axT (k:Nat) (f:LC) (c0:Int) (I:LC×Int->OS S):OS S:=aa k (dG k c0) fun r1=>ab (!r1) (I (([]:LC),c0)) (aa k (axu k f 0) fun x=>aa k (asH k (Tm.mk 0 0 alH [] [] []) x.2 c0) fun q=>aa k (dG k q.2) fun A=>ab (!A) (I (([]:LC),q.2)) (aa k (zc k 3 ([]:LT)) fun h=>aa k (zc k 3 ([]:LT)) fun j=>aa k (tK k) fun B=>aa k (m_ k (Tm.mk 14 0 alH x.1 [(Tm.mk h.1 h.2.1 h.2.2.1 [] h.2.2.2 []),(Tm.mk j.1 j.2.1 j.2.2.1 [] j.2.2.2 [])] []) 0 B) fun z=>aa k (asH k (Tm.mk 0 0 alH [] [] []) z.2 q.2) fun E=>I (z.1.r,E.2)))
def avw (k:Nat) (c1:Tm) (h:Int) (j:LC) (q x:Int) (z:BA) (A:LC) (B:LT) (E F:LB) (J L:Int) (M:BA) (O:LC) (T:LT) (W:LB) (Y ad:Int) (ao:BA) (ax:LC) (az:LT) (a6:LB) (I:Tm×Int->OS S):OS S:=aa k (zb k (ac c1) 0 1 h) fun r1=>I ((ac r1.1),r1.2)
def awp (k:Nat) (alJ:Int) (c0_1:LC) (sx wl:Int) (aas:BA) (abq:LC) (abZ:LT) (c0_7 h:LB) (aqZ aqU:Int) (aqV:BA) (aqW:LC) (aqX:LT) (aqY:LB) (aqG aqH:Int) (aqI:BA) (aqJ:LC) (aqK:LT) (aqL:LB) (c2:Tm) (I:LB×Int->OS S):OS S:=ab ((c0_1.length:Int)==0) (I (([]:LB),alJ)) (aa k (avw k (ac c2) alJ c0_1 sx wl aas abq abZ c0_7 h aqZ aqU aqV aqW aqX aqY aqG aqH aqI aqJ aqK aqL) fun r1=>aa k (aq3 k c0_1 [(ac r1.1)]) fun j=>I ([j],r1.2))
def aum (k:Nat) (a_e:Tm) (I:Int×Int×BA×LT->OS S):OS S:=aa k (zc k 9 [(ac a_e)]) fun r1=>I (r1.1,r1.2.1,r1.2.2.1,r1.2.2.2)
def ay7 (k:Nat) (b:(Br Tm)) (aqS:Int) (aph:LC) (api apl:Int) (apm:BA) (apn:LC) (apr:LT) (aps aqC:LB) (aqi apG:Int) (apH:BA) (apI:LC) (apJ:LT) (ap3:LB) (aqr aqx:Int) (aqy:BA) (aqz:LC) (aqA:LT) (aqB:LB) (I:(Br Tm)×Int->OS S):OS S:=asP (af b.kids 1) fun x1=>aa k (aum k (ac x1)) fun h=>asP (af b.kids 0) fun x3=>aa k (awu k (ac x3) aph (Tm.mk api apl apm apn apr aps) aqS) fun q=>aa k (zc k 6 [(Tm.mk h.1 h.2.1 h.2.2.1 [] h.2.2.2 []),(ac q.1)]) fun j=>aa k (aq3 k b.face [(Tm.mk j.1 j.2.1 j.2.2.1 [] j.2.2.2 [])]) fun x=>I (x,q.2)
def aw5 (k:Nat) (I:LB×Int->OS S) (aph:LC) (apG:Int) (apH:BA) (apI:LC) (apJ:LT) (ap3:LB) (aqr aqx:Int) (aqy:BA) (aqz:LC) (aqA:LT) (api:Int) (aqB:LB) (apl:Int) (apm:BA) (apn:LC) (apr:LT) (aps aqC:LB) (aqi:Int) (l:LB) (j:Int->Int->(LB)->OS S) (arm v10:Int) (h:LB):OS S:=ab (decide ((v10:Int)<(l.length:Int))) (asP (af l v10) fun x1=>aa k (ay7 k x1 arm aph api apl apm apn apr aps aqC aqi apG apH apI apJ ap3 aqr aqx aqy aqz aqA aqB) fun q=>asP (aw 1099511627776 h.length [q.1].length) fun x3=>j q.2 (su .i64 (v10+1)) (h++[q.1])) (I (h,arm))
def avQ (k:Nat) (I:LB×Int->OS S) (aph:LC) (apG:Int) (apH:BA) (apI:LC) (apJ:LT) (ap3:LB) (aqr aqx:Int) (aqy:BA) (aqz:LC) (aqA:LT) (api:Int) (aqB:LB) (apl:Int) (apm:BA) (apn:LC) (apr:LT) (aps aqC:LB) (aqi:Int) (l:LB):Nat->Int->Int->(LB)->OS S
 |0=>fun _ _ _=> .none
 |m+1=>fun arm v10 h=>aw5 k I aph apG apH apI apJ ap3 aqr aqx aqy aqz aqA api aqB apl apm apn apr aps aqC aqi l (avQ k I aph apG apH apI apJ ap3 aqr aqx aqy aqz aqA api aqB apl apm apn apr aps aqC aqi l m) arm v10 h
def aAa (k:Nat) (I:LB×Int->OS S) (J0:Int->Int->(LB)->OS S) (l:LB) (aqS:Int) (aph:LC) (api apl:Int) (apm:BA) (apn:LC) (apr:LT) (aps aqC:LB) (aqi apG:Int) (apH:BA) (apI:LC) (apJ:LT) (ap3:LB) (aqr aqx:Int) (aqy:BA) (aqz:LC) (aqA:LT) (aqB:LB):OS S:=J0 aqS 0 ([]:LB)
def awq (k:Nat) (l:LB) (aqS:Int) (aph:LC) (api apl:Int) (apm:BA) (apn:LC) (apr:LT) (aps aqC:LB) (aqi apG:Int) (apH:BA) (apI:LC) (apJ:LT) (ap3:LB) (aqr aqx:Int) (aqy:BA) (aqz:LC) (aqA:LT) (aqB:LB) (I:LB×Int->OS S):OS S:=aAa k I (fun arm v10 h=>avQ k I aph apG apH apI apJ ap3 aqr aqx aqy aqz aqA api aqB apl apm apn apr aps aqC aqi l k arm v10 h) l aqS aph api apl apm apn apr aps aqC aqi apG apH apI apJ ap3 aqr aqx aqy aqz aqA aqB
def aw4 (k:Nat) (I:Int×LB×Int×Int×BA×LC×LT×LB->OS S) (c0_1:LC) (aqU:Int) (aqV:BA) (aqW:LC) (aqX:LT) (aqY:LB) (aqG aqH:Int) (aqI:BA) (aqJ:LC) (aqK:LT) (sx:Int) (aqL:LB) (wl:Int) (aas:BA) (abq:LC) (abZ:LT) (c0_7:LB) (aqZ:Int) (g:Tm) (r3:Int×Int×BA×LT×LB) (q:Int->(LB)->Int->OS S) (x:Int) (h:LB) (v23:Int):OS S:=ab (decide ((v23:Int)<(g.sys.length:Int))) (asP (af g.sys v23) fun x4=>aa k (axT k x4.face x) fun z=>ab (decide (((z.1.length:Int):Int)>0)) (aa k (aq3 k z.1 x4.kids) fun F=>asP (aw 1099511627776 h.length [F].length) fun L=>q z.2 (h++[F]) (su .i64 (v23+1))) (q z.2 h (su .i64 (v23+1)))) (aa k (awp k x c0_1 sx wl aas abq abZ c0_7 h aqZ aqU aqV aqW aqX aqY aqG aqH aqI aqJ aqK aqL (Tm.mk r3.1 r3.2.1 r3.2.2.1 [] r3.2.2.2.1 r3.2.2.2.2)) fun A=>aa k (awq k h A.2 c0_1 sx wl aas abq abZ c0_7 h aqZ aqU aqV aqW aqX aqY aqG aqH aqI aqJ aqK aqL) fun B=>asP (aw 1099511627776 A.1.length B.1.length) fun J=>asP (af g.kids 0) fun E=>aa k (y9 k (ac E) (Tm.mk r3.1 r3.2.1 r3.2.2.1 [] r3.2.2.2.1 r3.2.2.2.2) (A.1++B.1) B.2) fun j=>I (j.2,h,j.1.kind,j.1.n,j.1.name,j.1.r,j.1.kids,j.1.sys))
def avP (k:Nat) (I:Int×LB×Int×Int×BA×LC×LT×LB->OS S) (c0_1:LC) (aqU:Int) (aqV:BA) (aqW:LC) (aqX:LT) (aqY:LB) (aqG aqH:Int) (aqI:BA) (aqJ:LC) (aqK:LT) (sx:Int) (aqL:LB) (wl:Int) (aas:BA) (abq:LC) (abZ:LT) (c0_7:LB) (aqZ:Int) (g:Tm) (r3:Int×Int×BA×LT×LB):Nat->Int->(LB)->Int->OS S
 |0=>fun _ _ _=> .none
 |m+1=>fun j h v23=>aw4 k I c0_1 aqU aqV aqW aqX aqY aqG aqH aqI aqJ aqK sx aqL wl aas abq abZ c0_7 aqZ g r3 (avP k I c0_1 aqU aqV aqW aqX aqY aqG aqH aqI aqJ aqK sx aqL wl aas abq abZ c0_7 aqZ g r3 m) j h v23
def az_ (k:Nat) (I:Int×LB×Int×Int×BA×LC×LT×LB->OS S) (J0:(Int×Int×BA×LT×LB)->Int->(LB)->Int->OS S) (g:Tm) (alJ:Int) (c0_1:LC) (sx wl:Int) (aas:BA) (abq:LC) (abZ:LT) (c0_7:LB) (aqZ aqU:Int) (aqV:BA) (aqW:LC) (aqX:LT) (aqY:LB) (aqG aqH:Int) (aqI:BA) (aqJ:LC) (aqK:LT) (aqL:LB):OS S:=aa k (JL k (ac g) ([]:LC) alJ) fun r1=>aa k (au4 k (ac r1.1)) fun h=>aa k (aun k (Tm.mk sx wl aas abq abZ c0_7) h) fun j=>J0 j r1.2 ([]:LB) 0
def axB (k:Nat) (g:Tm) (alJ:Int) (c0_1:LC) (sx wl:Int) (aas:BA) (abq:LC) (abZ:LT) (c0_7:LB) (aqZ aqU:Int) (aqV:BA) (aqW:LC) (aqX:LT) (aqY:LB) (aqG aqH:Int) (aqI:BA) (aqJ:LC) (aqK:LT) (aqL:LB) (I:Int×LB×Int×Int×BA×LC×LT×LB->OS S):OS S:=az_ k I (fun q j h v23=>avP k I c0_1 aqU aqV aqW aqX aqY aqG aqH aqI aqJ aqK sx aqL wl aas abq abZ c0_7 aqZ g q k j h v23) g alJ c0_1 sx wl aas abq abZ c0_7 aqZ aqU aqV aqW aqX aqY aqG aqH aqI aqJ aqK aqL
def asX (k:Nat) (a_n:Int) (I:Int×Int×BA->OS S):OS S:=I (1,a_n,alH)
def au2 (k:Nat) (t a f y:Tm) (c0:Int) (I:Int×Int×BA×LT×Int->OS S):OS S:=aa k (arP k (ac a) 1 1 c0) fun r1=>aa k (arP k (ac y) 1 0 r1.2) fun z=>aa k (arP k (ac f) 1 0 z.2) fun A=>aa k (asX k 0) fun x=>aa k (arj k 6 [(ac A.1),(Tm.mk x.1 x.2.1 x.2.2 [] [] [])]) fun h=>aa k (arj k 11 [(ac r1.1),(ac z.1),(Tm.mk h.1 h.2.1 h.2.2.1 [] h.2.2.2 [])]) fun j=>aa k (arj k 7 [(ac t),(Tm.mk j.1 j.2.1 j.2.2.1 [] j.2.2.2 [])]) fun q=>I (q.1,q.2.1,q.2.2.1,q.2.2.2,A.2)
def axq (k:Nat) (t a f y:Tm) (I:Tm×Int->OS S):OS S:=aa k (m9 k [(ac t),(ac a),(ac f),(ac y)]) fun r1=>dJ k (ac t) fun q=>aa k (au2 k (ac q) (ac a) (ac f) (ac y) r1) fun h=>aa k (eQ k (Tm.mk h.1 h.2.1 h.2.2.1 [] h.2.2.2.1 []) h.2.2.2.2) fun j=>I ((ac j.1),j.2.1)
def axW (k:Nat) (t a f y:Tm) (c0:Int) (I:Tm×Int->OS S):OS S:=aa k (dG k c0) fun r1=>ab (!r1) (I ((Tm.mk 0 0 alH [] [] []),c0)) (aa k (axq k (ac t) (ac a) (ac f) (ac y)) fun h=>aa k (asH k (ac h.1) h.2 c0) fun j=>I ((ac j.1),j.2))
def awo (k:Nat) (a_x c1:Tm) (B:Int) (Y:LC) (ad ao:Int) (ax:BA) (az:LC) (a6:LT) (a7 a8:LB) (E F:Int) (J:BA) (L:LC) (M:LT) (O:LB) (bc bf:Int) (bh:BA) (bn:LC) (bt:LT) (bz:LB) (I:Int×Int×BA×LC×LT×Int->OS S):OS S:=aa k (zb k (ac c1) 0 1 B) fun r1=>aa k (zb k (ac a_x) 0 1 r1.2) fun T=>aa k (zb k (Tm.mk E F J L M O) 0 2 T.2) fun W=>aa k (zc k 12 [(ac W.1)]) fun q=>aa k (zc k 8 [(ac T.1),(Tm.mk q.1 q.2.1 q.2.2.1 [] q.2.2.2 [])]) fun h=>aa k (zc k 10 [(ac r1.1)]) fun x=>aa k (zc k 6 [(Tm.mk x.1 x.2.1 x.2.2.1 [] x.2.2.2 []),(Tm.mk h.1 h.2.1 h.2.2.1 [] h.2.2.2 [])]) fun z=>aa k (zc k 9 [(ac r1.1)]) fun A=>aa k (tO k 13 [(Cl.mk 1 0)] [(Tm.mk z.1 z.2.1 z.2.2.1 [] z.2.2.2 []),(Tm.mk A.1 A.2.1 A.2.2.1 [] A.2.2.2 []),(Tm.mk h.1 h.2.1 h.2.2.1 [] h.2.2.2 [])]) fun j=>I (j.1,j.2.1,j.2.2.1,j.2.2.2.1,j.2.2.2.2,W.2)
def avx (k:Nat) (c2:Tm) (arG:Int) (aqT:LC) (aqM aqN:Int) (aqO:BA) (aqP:LC) (aqQ:LT) (aqR arh:LB) (ari aq7:Int) (aq8:BA) (aq9:LC) (aq_:LT) (ara:LB) (arb arc:Int) (ard:BA) (are:LC) (arf:LT) (arg:LB) (I:Int×Int×BA×LC×LT×Int->OS S):OS S:=aa k (awo k (Tm.mk aqM aqN aqO aqP aqQ aqR) (ac c2) arG aqT aqM aqN aqO aqP aqQ aqR arh ari aq7 aq8 aq9 aq_ ara arb arc ard are arf arg) fun r1=>I (r1.1,r1.2.1,r1.2.2.1,r1.2.2.2.1,r1.2.2.2.2.1,r1.2.2.2.2.2)
def axD (k:Nat) (alJ:Int) (c0_1:LC) (sx wl:Int) (aas:BA) (abq:LC) (abZ:LT) (c0_7 h:LB) (aqZ aqU:Int) (aqV:BA) (aqW:LC) (aqX:LT) (aqY:LB) (aqG aqH:Int) (aqI:BA) (aqJ:LC) (aqK:LT) (aqL:LB) (c3:Tm) (I:LB×Int->OS S):OS S:=ab ((c0_1.length:Int)==0) (I (([]:LB),alJ)) (aa k (avx k (ac c3) alJ c0_1 sx wl aas abq abZ c0_7 h aqZ aqU aqV aqW aqX aqY aqG aqH aqI aqJ aqK aqL) fun r1=>aa k (aq3 k c0_1 [(Tm.mk r1.1 r1.2.1 r1.2.2.1 r1.2.2.2.1 r1.2.2.2.2.1 [])]) fun j=>I ([j],r1.2.2.2.2.2))
def ay8 (k:Nat) (b:(Br Tm)) (c2:Tm) (arG:Int) (aqT:LC) (aqM aqN:Int) (aqO:BA) (aqP:LC) (aqQ:LT) (aqR arh:LB) (ari aq7:Int) (aq8:BA) (aq9:LC) (aq_:LT) (ara:LB) (arb arc:Int) (ard:BA) (are:LC) (arf:LT) (arg:LB) (I:(Br Tm)×Int->OS S):OS S:=asP (af b.kids 0) fun x1=>aa k (tO k 14 aqT [(ac x1),(Tm.mk aqM aqN aqO aqP aqQ aqR)]) fun j=>aa k (awo k (Tm.mk j.1 j.2.1 j.2.2.1 j.2.2.2.1 j.2.2.2.2 []) (ac c2) arG aqT aqM aqN aqO aqP aqQ aqR arh ari aq7 aq8 aq9 aq_ ara arb arc ard are arf arg) fun h=>aa k (aq3 k b.face [(Tm.mk h.1 h.2.1 h.2.2.1 h.2.2.2.1 h.2.2.2.2.1 [])]) fun q=>I (q,h.2.2.2.2.2)
def axa (k:Nat) (I:LB×Int->OS S) (c2:Tm) (aqT:LC) (aq7:Int) (aq8:BA) (aq9:LC) (aq_:LT) (ara:LB) (arb arc:Int) (ard:BA) (are:LC) (arf:LT) (aqM:Int) (arg:LB) (aqN:Int) (aqO:BA) (aqP:LC) (aqQ:LT) (aqR arh:LB) (ari:Int) (l:LB) (j:Int->Int->(LB)->OS S) (q v10:Int) (h:LB):OS S:=ab (decide ((v10:Int)<(l.length:Int))) (asP (af l v10) fun x1=>aa k (ay8 k x1 (ac c2) q aqT aqM aqN aqO aqP aqQ aqR arh ari aq7 aq8 aq9 aq_ ara arb arc ard are arf arg) fun x=>asP (aw 1099511627776 h.length [x.1].length) fun x3=>j x.2 (su .i64 (v10+1)) (h++[x.1])) (I (h,q))
def avd (k:Nat) (I:LB×Int->OS S) (c2:Tm) (aqT:LC) (aq7:Int) (aq8:BA) (aq9:LC) (aq_:LT) (ara:LB) (arb arc:Int) (ard:BA) (are:LC) (arf:LT) (aqM:Int) (arg:LB) (aqN:Int) (aqO:BA) (aqP:LC) (aqQ:LT) (aqR arh:LB) (ari:Int) (l:LB):Nat->Int->Int->(LB)->OS S
 |0=>fun _ _ _=> .none
 |m+1=>fun j v10 h=>axa k I c2 aqT aq7 aq8 aq9 aq_ ara arb arc ard are arf aqM arg aqN aqO aqP aqQ aqR arh ari l (avd k I c2 aqT aq7 aq8 aq9 aq_ ara arb arc ard are arf aqM arg aqN aqO aqP aqQ aqR arh ari l m) j v10 h
def aAd (k:Nat) (I:LB×Int->OS S) (J0:Int->Int->(LB)->OS S) (l:LB) (c2:Tm) (arG:Int) (aqT:LC) (aqM aqN:Int) (aqO:BA) (aqP:LC) (aqQ:LT) (aqR arh:LB) (ari aq7:Int) (aq8:BA) (aq9:LC) (aq_:LT) (ara:LB) (arb arc:Int) (ard:BA) (are:LC) (arf:LT) (arg:LB):OS S:=J0 arG 0 ([]:LB)
def axF (k:Nat) (l:LB) (c2:Tm) (arG:Int) (aqT:LC) (aqM aqN:Int) (aqO:BA) (aqP:LC) (aqQ:LT) (aqR arh:LB) (ari aq7:Int) (aq8:BA) (aq9:LC) (aq_:LT) (ara:LB) (arb arc:Int) (ard:BA) (are:LC) (arf:LT) (arg:LB) (I:LB×Int->OS S):OS S:=aAd k I (fun j v10 h=>avd k I c2 aqT aq7 aq8 aq9 aq_ ara arb arc ard are arf aqM arg aqN aqO aqP aqQ aqR arh ari l k j v10 h) l c2 arG aqT aqM aqN aqO aqP aqQ aqR arh ari aq7 aq8 aq9 aq_ ara arb arc ard are arf arg
def axC (k:Nat) (t a_e:Tm) (alJ:Int) (c0_1:LC) (sx wl:Int) (aas:BA) (abq:LC) (abZ:LT) (c0_7 j:LB) (aqZ aqU:Int) (aqV:BA) (aqW:LC) (aqX:LT) (aqY:LB) (aqG aqH:Int) (aqI:BA) (aqJ:LC) (aqK:LT) (aqL:LB) (I:Int×Int×BA×LT×LB×Int->OS S):OS S:=aa k (zc k 10 [(ac a_e)]) fun r1=>aa k (zc k 6 [(Tm.mk r1.1 r1.2.1 r1.2.2.1 [] r1.2.2.2 []),(Tm.mk aqZ aqU aqV aqW aqX aqY)]) fun h=>aa k (aum k (ac a_e)) fun x=>aa k (axW k (ac t) (Tm.mk aqG aqH aqI aqJ aqK aqL) (Tm.mk x.1 x.2.1 x.2.2.1 [] x.2.2.2 []) (Tm.mk aqZ aqU aqV aqW aqX aqY) alJ) fun E=>aa k (axD k E.2 c0_1 sx wl aas abq abZ c0_7 j aqZ aqU aqV aqW aqX aqY aqG aqH aqI aqJ aqK aqL (Tm.mk h.1 h.2.1 h.2.2.1 [] h.2.2.2 [])) fun A=>aa k (axF k j (Tm.mk h.1 h.2.1 h.2.2.1 [] h.2.2.2 []) A.2 c0_1 sx wl aas abq abZ c0_7 j aqZ aqU aqV aqW aqX aqY aqG aqH aqI aqJ aqK aqL) fun B=>asP (aw 1099511627776 A.1.length B.1.length) fun F=>aa k (zc k 9 [(Tm.mk h.1 h.2.1 h.2.2.1 [] h.2.2.2 [])]) fun z=>aa k (JM k 15 (A.1++B.1) [(ac E.1),(Tm.mk z.1 z.2.1 z.2.2.1 [] z.2.2.2 [])]) fun q=>I (q.1,q.2.1,q.2.2.1,q.2.2.2.1,q.2.2.2.2,B.2)
def ay5 (k:Nat) (b:(Br Tm)) (aqS:Int) (aph:LC) (api apl:Int) (apm:BA) (apn:LC) (apr:LT) (aps aqC:LB) (aqi apG:Int) (apH:BA) (apI:LC) (apJ:LT) (ap3:LB) (aqr aqx:Int) (aqy:BA) (aqz:LC) (aqA:LT) (aqB:LB) (I:Int×Int×BA×LT×LB×Int->OS S):OS S:=asP (af b.kids 0) fun x1=>asP (af b.kids 1) fun x2=>aa k (axC k (ac x1) (ac x2) aqS aph api apl apm apn apr aps aqC aqi apG apH apI apJ ap3 aqr aqx aqy aqz aqA aqB) fun h=>I (h.1,h.2.1,h.2.2.1,h.2.2.2.1,h.2.2.2.2.1,h.2.2.2.2.2)
def aw9 (k:Nat) (I:LT×Int->OS S) (aph:LC) (apG:Int) (apH:BA) (apI:LC) (apJ:LT) (ap3:LB) (aqr aqx:Int) (aqy:BA) (aqz:LC) (aqA:LT) (api:Int) (aqB:LB) (apl:Int) (apm:BA) (apn:LC) (apr:LT) (aps aqC:LB) (aqi:Int) (l:LB) (q:Int->Int->(LT)->OS S) (arm v10:Int) (h:LT):OS S:=ab (decide ((v10:Int)<(l.length:Int))) (asP (af l v10) fun x1=>aa k (ay5 k x1 arm aph api apl apm apn apr aps aqC aqi apG apH apI apJ ap3 aqr aqx aqy aqz aqA aqB) fun j=>asP (aw 1099511627776 h.length [(Tm.mk j.1 j.2.1 j.2.2.1 [] j.2.2.2.1 j.2.2.2.2.1)].length) fun x3=>q j.2.2.2.2.2 (su .i64 (v10+1)) (h++[(Tm.mk j.1 j.2.1 j.2.2.1 [] j.2.2.2.1 j.2.2.2.2.1)])) (I (h,arm))
def avU (k:Nat) (I:LT×Int->OS S) (aph:LC) (apG:Int) (apH:BA) (apI:LC) (apJ:LT) (ap3:LB) (aqr aqx:Int) (aqy:BA) (aqz:LC) (aqA:LT) (api:Int) (aqB:LB) (apl:Int) (apm:BA) (apn:LC) (apr:LT) (aps aqC:LB) (aqi:Int) (l:LB):Nat->Int->Int->(LT)->OS S
 |0=>fun _ _ _=> .none
 |m+1=>fun arm v10 h=>aw9 k I aph apG apH apI apJ ap3 aqr aqx aqy aqz aqA api aqB apl apm apn apr aps aqC aqi l (avU k I aph apG apH apI apJ ap3 aqr aqx aqy aqz aqA api aqB apl apm apn apr aps aqC aqi l m) arm v10 h
def aAc (k:Nat) (I:LT×Int->OS S) (J0:Int->Int->(LT)->OS S) (l:LB) (aqS:Int) (aph:LC) (api apl:Int) (apm:BA) (apn:LC) (apr:LT) (aps aqC:LB) (aqi apG:Int) (apH:BA) (apI:LC) (apJ:LT) (ap3:LB) (aqr aqx:Int) (aqy:BA) (aqz:LC) (aqA:LT) (aqB:LB):OS S:=J0 aqS 0 ([]:LT)
def avz (k:Nat) (l:LB) (aqS:Int) (aph:LC) (api apl:Int) (apm:BA) (apn:LC) (apr:LT) (aps aqC:LB) (aqi apG:Int) (apH:BA) (apI:LC) (apJ:LT) (ap3:LB) (aqr aqx:Int) (aqy:BA) (aqz:LC) (aqA:LT) (aqB:LB) (I:LT×Int->OS S):OS S:=aAc k I (fun arm v10 h=>avU k I aph apG apH apI apJ ap3 aqr aqx aqy aqz aqA api aqB apl apm apn apr aps aqC aqi l k arm v10 h) l aqS aph api apl apm apn apr aps aqC aqi apG apH apI apJ ap3 aqr aqx aqy aqz aqA aqB
def avv (k:Nat) (aqS:Int) (aph:LC) (api apl:Int) (apm:BA) (apn:LC) (apr:LT) (aps aqC:LB) (aqi apG:Int) (apH:BA) (apI:LC) (apJ:LT) (ap3:LB) (aqr aqx:Int) (aqy:BA) (aqz:LC) (aqA:LT) (aqB:LB) (I:Tm×Int->OS S):OS S:=aa k (zb k (Tm.mk aqi apG apH apI apJ ap3) 0 1 aqS) fun r1=>I ((ac r1.1),r1.2)
def avy (k:Nat) (alJ:Int) (c0_1:LC) (sx wl:Int) (aas:BA) (abq:LC) (abZ:LT) (c0_7 h:LB) (aqZ aqU:Int) (aqV:BA) (aqW:LC) (aqX:LT) (aqY:LB) (aqG aqH:Int) (aqI:BA) (aqJ:LC) (aqK:LT) (aqL:LB) (I:LB×Int->OS S):OS S:=ab ((c0_1.length:Int)==0) (I (([]:LB),alJ)) (aa k (avv k alJ c0_1 sx wl aas abq abZ c0_7 h aqZ aqU aqV aqW aqX aqY aqG aqH aqI aqJ aqK aqL) fun r1=>aa k (aq3 k c0_1 [(ac r1.1)]) fun j=>I ([j],r1.2))
def aw3 (k:Nat) (I:Tm×Bool×Int->OS S) (r3:Tm) (r6:Int×LB×Int×Int×BA×LC×LT×LB) (x4:Tm) (r8:Tm×Int) (W:Int->Int->Int->BA->(LC)->(LT)->(LB)->(LB)->Int->(LT)->(LB)->OS S) (Y ad ao:Int) (ax:BA) (az:LC) (a6:LT) (a7 h:LB) (v79:Int) (j:LT) (q:LB):OS S:=ab (decide ((v79:Int)<(r8.1.sys.length:Int))) (asP (af r8.1.sys v79) fun M=>asP (af j v79) fun b0=>asP (af j v79) fun bn=>aa k (zb k (ac bn) 0 1 Y) fun O=>aa k (zb k (Tm.mk r6.2.2.1 r6.2.2.2.1 r6.2.2.2.2.1 r6.2.2.2.2.2.1 r6.2.2.2.2.2.2.1 r6.2.2.2.2.2.2.2) 0 1 O.2) fun a8=>asP (af M.kids 1) fun bt=>aa k (zb k (ac bt) 0 1 a8.2) fun bc=>aa k (aum k (ac bc.1)) fun B=>aa k (zc k 9 [(ac O.1)]) fun E=>aa k (zc k 6 [(Tm.mk B.1 B.2.1 B.2.2.1 [] B.2.2.2 []),(Tm.mk E.1 E.2.1 E.2.2.1 [] E.2.2.2 [])]) fun F=>aa k (zc k 10 [(ac O.1)]) fun J=>aa k (tO k 13 [(Cl.mk 1 0)] [(Tm.mk J.1 J.2.1 J.2.2.1 [] J.2.2.2 []),(ac a8.1),(Tm.mk F.1 F.2.1 F.2.2.1 [] F.2.2.2 [])]) fun x=>aa k (aq3 k M.face [(Tm.mk x.1 x.2.1 x.2.2.1 x.2.2.2.1 x.2.2.2.2 [])]) fun bf=>asP (aw 1099511627776 q.length [bf].length) fun b1=>asP (af j v79) fun b2=>asP (af j v79) fun bz=>aa k (zc k 9 [(ac bz)]) fun L=>aa k (aq3 k M.face [(Tm.mk L.1 L.2.1 L.2.2.1 [] L.2.2.2 [])]) fun bh=>asP (aw 1099511627776 h.length [bh].length) fun b3=>W bc.2 ad ao ax az a6 a7 (h++[bh]) (su .i64 (v79+1)) j (q++[bf])) (aa k (JM k 15 q [(Tm.mk ad ao ax az a6 a7),(Tm.mk r6.2.2.1 r6.2.2.2.1 r6.2.2.2.2.1 r6.2.2.2.2.2.1 r6.2.2.2.2.2.2.1 r6.2.2.2.2.2.2.2)]) fun z=>aa k (JM k 17 h [(Tm.mk z.1 z.2.1 z.2.2.1 [] z.2.2.2.1 z.2.2.2.2)]) fun A=>aa k (ly k (Tm.mk A.1 A.2.1 A.2.2.1 [] A.2.2.2.1 A.2.2.2.2) Y) fun T=>I ((ac T.1),T.2.1,T.2.2.1))
def auQ (k:Nat) (I:Tm×Bool×Int->OS S) (r3:Tm) (r6:Int×LB×Int×Int×BA×LC×LT×LB) (x4:Tm) (r8:Tm×Int):Nat->Int->Int->Int->BA->(LC)->(LT)->(LB)->(LB)->Int->(LT)->(LB)->OS S
 |0=>fun _ _ _ _ _ _ _ _ _ _ _=> .none
 |m+1=>fun q x z A B E F h v79 J j=>aw3 k I r3 r6 x4 r8 (auQ k I r3 r6 x4 r8 m) q x z A B E F h v79 J j
def az9 (k:Nat) (I:Tm×Bool×Int->OS S) (J0:Tm->(Int×LB×Int×Int×BA×LC×LT×LB)->Tm->(Tm×Int)->Int->Int->Int->BA->(LC)->(LT)->(LB)->(LB)->Int->(LT)->(LB)->OS S) (t:Tm):OS S:=aa k (asi k (ac t)) fun r1=>ab (!(r1==0)) (I ((Tm.mk 0 0 alH [] [] []),false,r1)) (ab (!(t.kind==14)) (I ((Tm.mk 0 0 alH [] [] []),false,0)) (asP (af t.kids 0) fun x2=>ab (!(x2.kind==16)) (I ((Tm.mk 0 0 alH [] [] []),false,0)) (dJ k (ac t) fun q=>asP (af q.kids 1) fun x4=>asP (af q.kids 0) fun x5=>aa k (axB k (ac x5) 0 q.r x4.kind x4.n x4.name x4.r x4.kids x4.sys 0 0 alH [] [] [] 0 0 alH [] [] []) fun h=>asP (af q.kids 0) fun F=>aa k (JI k (ac F) h.1) fun x=>ab ((x.1.kids.length:Int)==1) (asP (af x.1.kids 0) fun j=>aa k (avz k x.1.sys x.2 q.r x4.kind x4.n x4.name x4.r x4.kids x4.sys h.2.1 h.2.2.1 h.2.2.2.1 h.2.2.2.2.1 h.2.2.2.2.2.1 h.2.2.2.2.2.2.1 h.2.2.2.2.2.2.2 j.kind j.n j.name j.r j.kids j.sys) fun z=>aa k (avy k z.2 q.r x4.kind x4.n x4.name x4.r x4.kids x4.sys h.2.1 h.2.2.1 h.2.2.2.1 h.2.2.2.2.1 h.2.2.2.2.2.1 h.2.2.2.2.2.2.1 h.2.2.2.2.2.2.2 j.kind j.n j.name j.r j.kids j.sys) fun A=>J0 q h x4 x A.2 j.kind j.n j.name j.r j.kids j.sys ([]:LB) 0 z.1 A.1) (aa k (avz k x.1.sys x.2 q.r x4.kind x4.n x4.name x4.r x4.kids x4.sys h.2.1 h.2.2.1 h.2.2.2.1 h.2.2.2.2.1 h.2.2.2.2.2.1 h.2.2.2.2.2.2.1 h.2.2.2.2.2.2.2 0 0 alH [] [] []) fun B=>aa k (avy k B.2 q.r x4.kind x4.n x4.name x4.r x4.kids x4.sys h.2.1 h.2.2.1 h.2.2.2.1 h.2.2.2.2.1 h.2.2.2.2.2.1 h.2.2.2.2.2.2.1 h.2.2.2.2.2.2.2 0 0 alH [] [] []) fun E=>J0 q h x4 x E.2 0 0 alH [] [] [] ([]:LB) 0 B.1 E.1))))
def axx (k:Nat) (t:Tm) (I:Tm×Bool×Int->OS S):OS S:=az9 k I (fun L M x4 O q x z A B E F h v79 J j=>auQ k I L M x4 O k q x z A B E F h v79 J j) t
def axZ (k:Nat) (t:Tm) (I:Tm×Bool×Int->OS S):OS S:=aa k (asi k (ac t)) fun r1=>ab (!(r1==0)) (I ((Tm.mk 0 0 alH [] [] []),false,r1)) (ab (!(t.kind==14)) (I ((Tm.mk 0 0 alH [] [] []),false,0)) (dJ k (ac t) fun j=>asP (af j.kids 1) fun x3=>asP (af j.kids 0) fun x4=>ab (x4.kind==3) (aa k (ly k (ac x3) 0) fun B=>I ((ac B.1),B.2.1,B.2.2.1)) (ab (x4.kind==19) (aa k (ly k (ac x3) 0) fun E=>I ((ac E.1),E.2.1,E.2.2.1)) (ab (x4.kind==4) (aa k (ax2 k (ac x4) 0 j.r x3.kind x3.n x3.name x3.r x3.kids x3.sys) fun z=>aa k (ly k (Tm.mk z.1 z.2.1 z.2.2.1 [] z.2.2.2.1 []) z.2.2.2.2) fun F=>I ((ac F.1),F.2.1,F.2.2.1)) (ab (x4.kind==7) (aa k (ax3 k (ac x4) 0 j.r x3.kind x3.n x3.name x3.r x3.kids x3.sys) fun A=>aa k (ly k (Tm.mk A.1 A.2.1 A.2.2.1 [] A.2.2.2.1 []) A.2.2.2.2) fun q=>I ((ac q.1),q.2.1,q.2.2.1)) (ab (x4.kind==11) (aa k (ax1 k (ac x4) 0 j.r x3.kind x3.n x3.name x3.r x3.kids x3.sys) fun h=>aa k (ly k (Tm.mk h.1 h.2.1 h.2.2.1 [] h.2.2.2.1 []) h.2.2.2.2) fun x=>I ((ac x.1),x.2.1,x.2.2.1)) (ab (x4.kind==23) (aa k (JG k (ac j)) fun r13=>I ((ac r13.1),r13.2.1,r13.2.2)) (ab (x4.kind==16) (aa k (axx k (ac j)) fun r14=>I ((ac r14.1),r14.2.1,r14.2.2)) (I ((Tm.mk 0 0 alH [] [] []),false,0))))))))))
def axH (k:Nat) (u:Tm) (aqS aph api:Int) (apl:BA) (apm:LC) (apn:LT) (apr aps:LB) (I:LT×Int->OS S):OS S:=aa k (zb k (ac u) 1 0 aqS) fun r1=>aa k (au5 k 0) fun j=>aa k (zc k 6 [(ac r1.1),(Tm.mk j.1 j.2.1 j.2.2 [] [] [])]) fun h=>I ([(Tm.mk h.1 h.2.1 h.2.2.1 [] h.2.2.2 [])],r1.2)
def axc (k:Nat) (I:LB×Int->OS S) (c0_1 sx:Int) (wl:BA) (aas:LC) (abq:LT) (abZ c0_7:LB) (q:Int->Int->(LB)->OS S) (x j:Int) (h:LB):OS S:=ab (decide ((j:Int)<(c0_7.length:Int))) (asP (af c0_7 j) fun x1=>asP (af x1.kids 0) fun x2=>aa k (axH k (ac x2) x c0_1 sx wl aas abq abZ c0_7) fun z=>aa k (aq3 k x1.face z.1) fun A=>asP (aw 1099511627776 h.length [A].length) fun x5=>q z.2 (su .i64 (j+1)) (h++[A])) (I (h,x))
def avX (k:Nat) (I:LB×Int->OS S) (c0_1 sx:Int) (wl:BA) (aas:LC) (abq:LT) (abZ c0_7:LB):Nat->Int->Int->(LB)->OS S
 |0=>fun _ _ _=> .none
 |m+1=>fun j q h=>axc k I c0_1 sx wl aas abq abZ c0_7 (avX k I c0_1 sx wl aas abq abZ c0_7 m) j q h
def aAf (k:Nat) (I:LB×Int->OS S) (J0:Int->Int->(LB)->OS S) (alJ c0_1 sx:Int) (wl:BA) (aas:LC) (abq:LT) (abZ c0_7:LB):OS S:=J0 alJ 0 ([]:LB)
def avA (k:Nat) (alJ c0_1 sx:Int) (wl:BA) (aas:LC) (abq:LT) (abZ c0_7:LB) (I:LB×Int->OS S):OS S:=aAf k I (fun j q h=>avX k I c0_1 sx wl aas abq abZ c0_7 k j q h) alJ c0_1 sx wl aas abq abZ c0_7
def axI (k:Nat) (t:Tm) (alJ c0_1 sx:Int) (wl:BA) (aas:LC) (abq:LT) (abZ c0_7:LB) (I:Int×Int×BA×LT×Int->OS S):OS S:=aa k (zb k (Tm.mk c0_1 sx wl aas abq abZ) 1 0 alJ) fun r1=>aa k (au5 k 0) fun x=>aa k (zc k 6 [(ac r1.1),(Tm.mk x.1 x.2.1 x.2.2 [] [] [])]) fun j=>aa k (avA k r1.2 c0_1 sx wl aas abq abZ c0_7) fun z=>asP (af t.kids 1) fun x5=>aa k (JM k 15 z.1 [(ac x5),(Tm.mk j.1 j.2.1 j.2.2.1 [] j.2.2.2 [])]) fun h=>aa k (zc k 5 [(Tm.mk h.1 h.2.1 h.2.2.1 [] h.2.2.2.1 h.2.2.2.2)]) fun q=>I (q.1,q.2.1,q.2.2.1,q.2.2.2,z.2)
def aza (k:Nat) (u:Tm) (c0:Int) (I:LT->OS S):OS S:=aa k (zc k c0 [(ac u)]) fun r1=>I [(Tm.mk r1.1 r1.2.1 r1.2.2.1 [] r1.2.2.2 [])]
def axe (k:Nat) (I:LB->OS S) (alJ c0_1 sx:Int) (wl:BA) (aas:LC) (abq:LT) (abZ c0_7:LB) (c1:Int) (q:Int->(LB)->OS S) (j:Int) (h:LB):OS S:=ab (decide ((j:Int)<(c0_7.length:Int))) (asP (af c0_7 j) fun x1=>asP (af x1.kids 0) fun x2=>aa k (aza k (ac x2) c1) fun z=>aa k (aq3 k x1.face z) fun x=>asP (aw 1099511627776 h.length [x].length) fun x5=>q (su .i64 (j+1)) (h++[x])) (I h)
def avZ (k:Nat) (I:LB->OS S) (alJ c0_1 sx:Int) (wl:BA) (aas:LC) (abq:LT) (abZ c0_7:LB) (c1:Int):Nat->Int->(LB)->OS S
 |0=>fun _ _=> .none
 |m+1=>fun j h=>axe k I alJ c0_1 sx wl aas abq abZ c0_7 c1 (avZ k I alJ c0_1 sx wl aas abq abZ c0_7 c1 m) j h
def aAh (k:Nat) (I:LB->OS S) (J0:Int->(LB)->OS S) (alJ c0_1 sx:Int) (wl:BA) (aas:LC) (abq:LT) (abZ c0_7:LB) (c1:Int):OS S:=J0 0 ([]:LB)
def avC (k:Nat) (alJ c0_1 sx:Int) (wl:BA) (aas:LC) (abq:LT) (abZ c0_7:LB) (c1:Int) (I:LB->OS S):OS S:=aAh k I (fun j h=>avZ k I alJ c0_1 sx wl aas abq abZ c0_7 c1 k j h) alJ c0_1 sx wl aas abq abZ c0_7 c1
def aws (k:Nat) (kind aqS aph api:Int) (apl:BA) (apm:LC) (apn:LT) (apr aps:LB) (I:Int×Int×BA×LT×LB->OS S):OS S:=aa k (zc k kind [(Tm.mk aph api apl apm apn apr)]) fun r1=>aa k (avC k aqS aph api apl apm apn apr aps kind) fun h=>I (r1.1,r1.2.1,r1.2.2.1,r1.2.2.2,h)
def axJ (k:Nat) (t:Tm) (alJ c0_1 sx:Int) (wl:BA) (aas:LC) (abq:LT) (abZ c0_7:LB) (I:Int×Int×BA×LT×Int->OS S):OS S:=aa k (aws k 9 alJ c0_1 sx wl aas abq abZ c0_7) fun r1=>aa k (aws k 10 alJ c0_1 sx wl aas abq abZ c0_7) fun j=>asP (af t.kids 0) fun x3=>aa k (y_ k (ac x3) (Tm.mk r1.1 r1.2.1 r1.2.2.1 [] r1.2.2.2.1 []) r1.2.2.2.2 alJ) fun z=>asP (af t.kids 1) fun x5=>aa k (y8 k (ac x5) 0 1 z.2) fun A=>aa k (za k (ac A.1) (ac z.1) A.2) fun B=>asP (af t.kids 0) fun E=>aa k (JM k 15 r1.2.2.2.2 [(ac E),(Tm.mk r1.1 r1.2.1 r1.2.2.1 [] r1.2.2.2.1 [])]) fun q=>aa k (y9 k (ac B.1) (Tm.mk j.1 j.2.1 j.2.2.1 [] j.2.2.2.1 []) j.2.2.2.2 B.2) fun x=>aa k (zc k 8 [(Tm.mk q.1 q.2.1 q.2.2.1 [] q.2.2.2.1 q.2.2.2.2),(ac x.1)]) fun h=>I (h.1,h.2.1,h.2.2.1,h.2.2.2,x.2)
def axb (k:Nat) (I:Int×Int×BA×LT×Int->OS S) (c0_1 sx:Int) (wl:BA) (aas:LC) (abq:LT) (abZ c0_7:LB) (t x1 x2:Tm) (r6:Int×Int×BA×LC×LT) (z:Int->(LB)->Int->OS S) (A:Int) (h:LB) (v53:Int):OS S:=ab (decide ((v53:Int)<(c0_7.length:Int))) (asP (af c0_7 v53) fun T=>aa k (JK k T.face 1 A) fun W=>asP (af T.kids 0) fun Y=>aa k (JJ k (ac Y) 1 W.2) fun B=>aa k (zb k (ac x1) 0 2 B.2) fun E=>aa k (zb k (ac x2) 0 2 E.2) fun F=>aa k (tO k 13 [(Cl.mk 2 0)] [(ac B.1),(ac E.1),(ac F.1)]) fun r13=>aa k (aq3 k W.1 [(Tm.mk r13.1 r13.2.1 r13.2.2.1 r13.2.2.2.1 r13.2.2.2.2 [])]) fun r14=>asP (aw 1099511627776 h.length [r14].length) fun ad=>z F.2 (h++[r14]) (su .i64 (v53+1))) (aa k (zb k (ac x1) 0 2 A) fun J=>aa k (aq3 k [(Cl.mk 0 1)] [(ac J.1)]) fun x=>asP (aw 1099511627776 h.length [x].length) fun ao=>aa k (zb k (ac x2) 0 2 J.2) fun L=>aa k (aq3 k [(Cl.mk 1 0)] [(ac L.1)]) fun M=>asP (aw 1099511627776 (h++[x]).length [M].length) fun ax=>asP (af t.kids 0) fun O=>aa k (JM k 15 ((h++[x])++[M]) [(ac O),(Tm.mk r6.1 r6.2.1 r6.2.2.1 r6.2.2.2.1 r6.2.2.2.2 [])]) fun j=>aa k (zc k 12 [(Tm.mk j.1 j.2.1 j.2.2.1 [] j.2.2.2.1 j.2.2.2.2)]) fun q=>I (q.1,q.2.1,q.2.2.1,q.2.2.2,L.2))
def avW (k:Nat) (I:Int×Int×BA×LT×Int->OS S) (c0_1 sx:Int) (wl:BA) (aas:LC) (abq:LT) (abZ c0_7:LB) (t x1 x2:Tm) (r6:Int×Int×BA×LC×LT):Nat->Int->(LB)->Int->OS S
 |0=>fun _ _ _=> .none
 |m+1=>fun j h v53=>axb k I c0_1 sx wl aas abq abZ c0_7 t x1 x2 r6 (avW k I c0_1 sx wl aas abq abZ c0_7 t x1 x2 r6 m) j h v53
def aAe (k:Nat) (I:Int×Int×BA×LT×Int->OS S) (J0:Tm->Tm->(Int×Int×BA×LC×LT)->Int->(LB)->Int->OS S) (t:Tm) (alJ c0_1 sx:Int) (wl:BA) (aas:LC) (abq:LT) (abZ c0_7:LB):OS S:=asP (af t.kids 1) fun x1=>asP (af t.kids 2) fun x2=>aa k (zb k (Tm.mk c0_1 sx wl aas abq abZ) 0 1 alJ) fun h=>aa k (zb k (ac x1) 0 1 h.2) fun j=>aa k (zb k (ac x2) 0 1 j.2) fun q=>aa k (tO k 13 [(Cl.mk 1 0)] [(ac h.1),(ac j.1),(ac q.1)]) fun x=>J0 x1 x2 x q.2 ([]:LB) 0
def axG (k:Nat) (t:Tm) (alJ c0_1 sx:Int) (wl:BA) (aas:LC) (abq:LT) (abZ c0_7:LB) (I:Int×Int×BA×LT×Int->OS S):OS S:=aAe k I (fun x1 x2 q j h v53=>avW k I c0_1 sx wl aas abq abZ c0_7 t x1 x2 q k j h v53) t alJ c0_1 sx wl aas abq abZ c0_7
def axt (k:Nat) (t:Tm) (c0:Int) (I:Int×Int×BA×LT×Int->OS S):OS S:=aa k (arP k (ac t) 1 0 c0) fun r1=>aa k (arP k (ac t) 2 1 r1.2) fun A=>aa k (asX k 1) fun x=>aa k (asX k 0) fun z=>aa k (arj k 11 [(ac A.1),(Tm.mk x.1 x.2.1 x.2.2 [] [] []),(Tm.mk z.1 z.2.1 z.2.2 [] [] [])]) fun h=>aa k (arj k 4 [(ac r1.1),(Tm.mk h.1 h.2.1 h.2.2.1 [] h.2.2.2 [])]) fun j=>aa k (arj k 7 [(ac t),(Tm.mk j.1 j.2.1 j.2.2.1 [] j.2.2.2 [])]) fun q=>I (q.1,q.2.1,q.2.2.1,q.2.2.2,A.2)
def axp (k:Nat) (t a:Tm) (I:Tm×Int->OS S):OS S:=aa k (m9 k [(ac t),(ac a)]) fun r1=>dJ k (ac t) fun L=>aa k (arP k (ac a) 1 0 r1) fun B=>aa k (arj k 4 [(ac L),(ac B.1)]) fun x=>aa k (arP k (ac a) 1 0 B.2) fun E=>aa k (arP k (ac t) 2 0 E.2) fun F=>aa k (arP k (ac a) 2 0 F.2) fun J=>aa k (asX k 1) fun z=>aa k (asX k 0) fun A=>aa k (au2 k (ac F.1) (ac J.1) (Tm.mk z.1 z.2.1 z.2.2 [] [] []) (Tm.mk A.1 A.2.1 A.2.2 [] [] []) J.2) fun h=>aa k (axt k (Tm.mk h.1 h.2.1 h.2.2.1 [] h.2.2.2.1 []) h.2.2.2.2) fun j=>aa k (arj k 4 [(ac E.1),(Tm.mk j.1 j.2.1 j.2.2.1 [] j.2.2.2.1 [])]) fun q=>aa k (arj k 7 [(Tm.mk x.1 x.2.1 x.2.2.1 [] x.2.2.2 []),(Tm.mk q.1 q.2.1 q.2.2.1 [] q.2.2.2 [])]) fun r13=>aa k (eQ k (Tm.mk r13.1 r13.2.1 r13.2.2.1 [] r13.2.2.2 []) j.2.2.2.2) fun r14=>I ((ac r14.1),r14.2.1)
def axV (k:Nat) (t a:Tm) (c0:Int) (I:Tm×Int->OS S):OS S:=aa k (dG k c0) fun r1=>ab (!r1) (I ((Tm.mk 0 0 alH [] [] []),c0)) (aa k (axp k (ac t) (ac a)) fun h=>aa k (asH k (ac h.1) h.2 c0) fun j=>I ((ac j.1),j.2))
def ay2 (k:Nat) (a_r:LC) (I:Int×Int×BA×LC×LT->OS S):OS S:=aa k (asX k 0) fun r1=>aa k (arj k 10 [(Tm.mk r1.1 r1.2.1 r1.2.2 [] [] [])]) fun h=>aa k (asX k 1) fun q=>aa k (asX k 0) fun x=>aa k (arj k 9 [(Tm.mk x.1 x.2.1 x.2.2 [] [] [])]) fun j=>I (13,0,alH,a_r,[(Tm.mk h.1 h.2.1 h.2.2.1 [] h.2.2.2 []),(Tm.mk q.1 q.2.1 q.2.2 [] [] []),(Tm.mk j.1 j.2.1 j.2.2.1 [] j.2.2.2 [])])
def axr (k:Nat) (I:Int×Int×BA×LT->OS S):OS S:=aa k (asX k 0) fun r1=>aa k (asX k 0) fun M=>aa k (arj k 12 [(Tm.mk M.1 M.2.1 M.2.2 [] [] [])]) fun B=>aa k (arj k 8 [(Tm.mk r1.1 r1.2.1 r1.2.2 [] [] []),(Tm.mk B.1 B.2.1 B.2.2.1 [] B.2.2.2 [])]) fun E=>aa k (ay2 k [(Cl.mk 1 0)]) fun z=>aa k (ay2 k [(Cl.mk 3 0)]) fun A=>aa k (arj k 12 [(Tm.mk A.1 A.2.1 A.2.2.1 A.2.2.2.1 A.2.2.2.2 [])]) fun F=>aa k (arj k 8 [(Tm.mk z.1 z.2.1 z.2.2.1 z.2.2.2.1 z.2.2.2.2 []),(Tm.mk F.1 F.2.1 F.2.2.1 [] F.2.2.2 [])]) fun J=>aa k (arj k 12 [(Tm.mk J.1 J.2.1 J.2.2.1 [] J.2.2.2 [])]) fun L=>aa k (arj k 5 [(Tm.mk L.1 L.2.1 L.2.2.1 [] L.2.2.2 [])]) fun h=>aa k (asX k 0) fun x=>aa k (arj k 5 [(Tm.mk x.1 x.2.1 x.2.2 [] [] [])]) fun j=>aa k (arj k 8 [(Tm.mk E.1 E.2.1 E.2.2.1 [] E.2.2.2 []),(Tm.mk h.1 h.2.1 h.2.2.1 [] h.2.2.2 [])]) fun r13=>aa k (arj k 5 [(Tm.mk r13.1 r13.2.1 r13.2.2.1 [] r13.2.2.2 [])]) fun r14=>aa k (arj k 8 [(Tm.mk j.1 j.2.1 j.2.2.1 [] j.2.2.2 []),(Tm.mk r14.1 r14.2.1 r14.2.2.1 [] r14.2.2.2 [])]) fun q=>I (q.1,q.2.1,q.2.2.1,q.2.2.2)
def azb (k:Nat) (u:Tm) (aqS aph api:Int) (apl:BA) (apm:LC) (apn:LT) (apr aps:LB) (I:LT×Int->OS S):OS S:=aa k (JI k (ac u) aqS) fun r1=>aa k (zb k (Tm.mk aph api apl apm apn apr) 0 1 r1.2) fun q=>aa k (axV k (ac u) (ac q.1) q.2) fun x=>aa k (axr k) fun h=>aa k (zc k 14 [(ac x.1),(Tm.mk h.1 h.2.1 h.2.2.1 [] h.2.2.2 [])]) fun j=>I ([(ac r1.1),(Tm.mk j.1 j.2.1 j.2.2.1 [] j.2.2.2 [])],x.2)
def axd (k:Nat) (I:LB×Int->OS S) (c0_1 sx:Int) (wl:BA) (aas:LC) (abq:LT) (abZ c0_7:LB) (q:Int->Int->(LB)->OS S) (x j:Int) (h:LB):OS S:=ab (decide ((j:Int)<(c0_7.length:Int))) (asP (af c0_7 j) fun x1=>asP (af x1.kids 0) fun x2=>aa k (azb k (ac x2) x c0_1 sx wl aas abq abZ c0_7) fun z=>aa k (aq3 k x1.face z.1) fun A=>asP (aw 1099511627776 h.length [A].length) fun x5=>q z.2 (su .i64 (j+1)) (h++[A])) (I (h,x))
def avY (k:Nat) (I:LB×Int->OS S) (c0_1 sx:Int) (wl:BA) (aas:LC) (abq:LT) (abZ c0_7:LB):Nat->Int->Int->(LB)->OS S
 |0=>fun _ _ _=> .none
 |m+1=>fun j q h=>axd k I c0_1 sx wl aas abq abZ c0_7 (avY k I c0_1 sx wl aas abq abZ c0_7 m) j q h
def aAg (k:Nat) (I:LB×Int->OS S) (J0:Int->Int->(LB)->OS S) (alJ c0_1 sx:Int) (wl:BA) (aas:LC) (abq:LT) (abZ c0_7:LB):OS S:=J0 alJ 0 ([]:LB)
def avB (k:Nat) (alJ c0_1 sx:Int) (wl:BA) (aas:LC) (abq:LT) (abZ c0_7:LB) (I:LB×Int->OS S):OS S:=aAg k I (fun j q h=>avY k I c0_1 sx wl aas abq abZ c0_7 k j q h) alJ c0_1 sx wl aas abq abZ c0_7
def axK (k:Nat) (alJ c0_1 sx:Int) (wl:BA) (aas:LC) (abq:LT) (abZ c0_7:LB) (I:Int×Int×BA×LT×LB×Int->OS S):OS S:=aa k (avB k alJ c0_1 sx wl aas abq abZ c0_7) fun r1=>aa k (JM k 16 r1.1 [(Tm.mk c0_1 sx wl aas abq abZ)]) fun h=>I (h.1,h.2.1,h.2.2.1,h.2.2.2.1,h.2.2.2.2,r1.2)
def axz (k:Nat) (a_x:(Br Tm)) (c1:LB) (c2:Int) (I:(Br Tm)×Int->OS S):OS S:=aa k (zc k 3 ([]:LT)) fun r1=>aa k (aun k (Tm.mk r1.1 r1.2.1 r1.2.2.1 [] r1.2.2.2 []) c1) fun j=>aa k (zb k (Tm.mk j.1 j.2.1 j.2.2.1 [] j.2.2.2.1 j.2.2.2.2) 0 1 c2) fun h=>asP (af a_x.kids 0) fun x4=>aa k (aq3 k a_x.face [(Tm.mk h.1.kind h.1.n h.1.name h.1.r [(ac x4)] h.1.sys)]) fun q=>I (q,h.2)
def aw8 (k:Nat) (I:LB×Int->OS S) (c1 l:LB) (j:Int->Int->(LB)->OS S) (q v10:Int) (h:LB):OS S:=ab (decide ((v10:Int)<(l.length:Int))) (asP (af l v10) fun x1=>aa k (axz k x1 c1 q) fun x=>asP (aw 1099511627776 h.length [x.1].length) fun x3=>j x.2 (su .i64 (v10+1)) (h++[x.1])) (I (h,q))
def avT (k:Nat) (I:LB×Int->OS S) (c1 l:LB):Nat->Int->Int->(LB)->OS S
 |0=>fun _ _ _=> .none
 |m+1=>fun j v10 h=>aw8 k I c1 l (avT k I c1 l m) j v10 h
def aDn (k:Nat) (I:LB×Int->OS S) (J0:Int->Int->(LB)->OS S) (l c1:LB) (c2:Int):OS S:=J0 c2 0 ([]:LB)
def aAQ (k:Nat) (l c1:LB) (c2:Int) (I:LB×Int->OS S):OS S:=aDn k I (fun j v10 h=>avT k I c1 l k j v10 h) l c1 c2
def axA (k:Nat) (a_x:(Br Tm)) (c1 c2:Tm) (c3:Int) (I:(Br Tm)×Int->OS S):OS S:=asP (af a_x.kids 1) fun x1=>aa k (zb k (ac x1) 0 1 c3) fun q=>aa k (aum k (ac q.1)) fun h=>asP (af a_x.kids 0) fun x4=>aa k (y_ k (ac x4) (ac c1) c2.sys q.2) fun x=>aa k (zc k 6 [(Tm.mk h.1 h.2.1 h.2.2.1 [] h.2.2.2 []),(ac x.1)]) fun j=>aa k (aq3 k a_x.face [(Tm.mk j.1 j.2.1 j.2.2.1 [] j.2.2.2 [])]) fun z=>I (z,x.2)
def aw7 (k:Nat) (I:LB×Int->OS S) (c1 c2:Tm) (l:LB) (j:Int->Int->(LB)->OS S) (q v10:Int) (h:LB):OS S:=ab (decide ((v10:Int)<(l.length:Int))) (asP (af l v10) fun x1=>aa k (axA k x1 (ac c1) (ac c2) q) fun x=>asP (aw 1099511627776 h.length [x.1].length) fun x3=>j x.2 (su .i64 (v10+1)) (h++[x.1])) (I (h,q))
def avS (k:Nat) (I:LB×Int->OS S) (c1 c2:Tm) (l:LB):Nat->Int->Int->(LB)->OS S
 |0=>fun _ _ _=> .none
 |m+1=>fun j v10 h=>aw7 k I c1 c2 l (avS k I c1 c2 l m) j v10 h
def aDm (k:Nat) (I:LB×Int->OS S) (J0:Int->Int->(LB)->OS S) (l:LB) (c1 c2:Tm) (c3:Int):OS S:=J0 c3 0 ([]:LB)
def ay9 (k:Nat) (l:LB) (c1 c2:Tm) (c3:Int) (I:LB×Int->OS S):OS S:=aDm k I (fun j v10 h=>avS k I c1 c2 l k j v10 h) l c1 c2 c3
def ay6 (k:Nat) (a_x:(Br Tm)) (c0 c1:Tm) (I:(Br Tm)->OS S):OS S:=asP (af a_x.kids 0) fun x1=>aa k (JM k 15 c0.sys [(ac x1),(ac c1)]) fun h=>aa k (aq3 k a_x.face [(Tm.mk h.1 h.2.1 h.2.2.1 [] h.2.2.2.1 h.2.2.2.2)]) fun j=>I j
def aw6 (k:Nat) (I:LB->OS S) (c0 c1:Tm) (l:LB) (j:Int->(LB)->OS S) (v10:Int) (h:LB):OS S:=ab (decide ((v10:Int)<(l.length:Int))) (asP (af l v10) fun x1=>aa k (ay6 k x1 (ac c0) (ac c1)) fun q=>asP (aw 1099511627776 h.length [q].length) fun x3=>j (su .i64 (v10+1)) (h++[q])) (I h)
def avR (k:Nat) (I:LB->OS S) (c0 c1:Tm) (l:LB):Nat->Int->(LB)->OS S
 |0=>fun _ _=> .none
 |m+1=>fun v10 h=>aw6 k I c0 c1 l (avR k I c0 c1 l m) v10 h
def aAb (k:Nat) (I:LB->OS S) (J0:Int->(LB)->OS S) (l:LB) (c0 c1:Tm):OS S:=J0 0 ([]:LB)
def awr (k:Nat) (l:LB) (c0 c1:Tm) (I:LB->OS S):OS S:=aAb k I (fun v10 h=>avR k I c0 c1 l k v10 h) l c0 c1
def axy (k:Nat) (t:Tm) (I:Tm×Bool×Int->OS S):OS S:=aa k (asi k (ac t)) fun r1=>ab (!(r1==0)) (I ((Tm.mk 0 0 alH [] [] []),false,r1)) (ab (!(t.kind==15)) (I ((Tm.mk 0 0 alH [] [] []),false,0)) (asP (af t.kids 0) fun x2=>ab (!(x2.kind==16)) (I ((Tm.mk 0 0 alH [] [] []),false,0)) (dJ k (ac t) fun x=>asP (af x.kids 0) fun x4=>asP (af x.kids 1) fun x5=>asP (af x.kids 0) fun x6=>aa k (au4 k (ac x6)) fun E=>aa k (aAQ k x.sys E 0) fun z=>aa k (ay9 k x4.sys (ac x5) (ac x) z.2) fun A=>asP (aw 1099511627776 z.1.length A.1.length) fun F=>asP (af x4.kids 0) fun B=>aa k (aun k (ac x5) E) fun h=>aa k (JM k 15 (z.1++A.1) [(ac B),(Tm.mk h.1 h.2.1 h.2.2.1 [] h.2.2.2.1 h.2.2.2.2)]) fun r13=>aa k (awr k x4.sys (ac x) (ac x5)) fun r14=>aa k (JM k 17 r14 [(Tm.mk r13.1 r13.2.1 r13.2.2.1 [] r13.2.2.2.1 r13.2.2.2.2)]) fun j=>aa k (ly k (Tm.mk j.1 j.2.1 j.2.2.1 [] j.2.2.2.1 j.2.2.2.2) A.2) fun q=>I ((ac q.1),q.2.1,q.2.2.1))))
def cG (k:Nat) (t:Tm) (I:Tm×Bool×Int->OS S):OS S:=aa k (asi k (ac t)) fun r1=>ab (!(r1==0)) (I ((Tm.mk 0 0 alH [] [] []),false,r1)) (ab (!(t.kind==15)) (I ((Tm.mk 0 0 alH [] [] []),false,0)) (dJ k (ac t) fun j=>asP (af j.kids 1) fun x3=>asP (af j.kids 0) fun x4=>ab (x4.kind==4) (aa k (axI k (ac x4) 0 x3.kind x3.n x3.name x3.r x3.kids x3.sys j.sys) fun z=>aa k (ly k (Tm.mk z.1 z.2.1 z.2.2.1 [] z.2.2.2.1 []) z.2.2.2.2) fun E=>I ((ac E.1),E.2.1,E.2.2.1)) (ab (x4.kind==7) (aa k (axJ k (ac x4) 0 x3.kind x3.n x3.name x3.r x3.kids x3.sys j.sys) fun A=>aa k (ly k (Tm.mk A.1 A.2.1 A.2.2.1 [] A.2.2.2.1 []) A.2.2.2.2) fun F=>I ((ac F.1),F.2.1,F.2.2.1)) (ab (x4.kind==11) (aa k (axG k (ac x4) 0 x3.kind x3.n x3.name x3.r x3.kids x3.sys j.sys) fun B=>aa k (ly k (Tm.mk B.1 B.2.1 B.2.2.1 [] B.2.2.2.1 []) B.2.2.2.2) fun q=>I ((ac q.1),q.2.1,q.2.2.1)) (ab (x4.kind==3) (aa k (axK k 0 x3.kind x3.n x3.name x3.r x3.kids x3.sys j.sys) fun h=>aa k (ly k (Tm.mk h.1 h.2.1 h.2.2.1 [] h.2.2.2.1 h.2.2.2.2.1) h.2.2.2.2.2) fun x=>I ((ac x.1),x.2.1,x.2.2.1)) (ab (x4.kind==16) (aa k (axy k (ac j)) fun r13=>I ((ac r13.1),r13.2.1,r13.2.2)) (I ((Tm.mk 0 0 alH [] [] []),false,0))))))))
def co (k:Nat) (I:Tm×Bool×Int->OS S) (t:Tm) (defs:List Df):OS S:=aa k (cR k defs (ac t)) fun h=>ab (h.2) (I ((ac h.1),true,0)) (I ((Tm.mk 0 0 alH [] [] []),false,0))
def bK (k:Nat) (I:Tm×Bool×Int->OS S) (t:Tm) (defs:List Df):Nat->OS S
 |0=> .none
 |_+1=>co k I t defs
def bu (k:Nat) (I:Tm×Bool×Int->OS S) (t:Tm) (defs:List Df) (J1:OS S) (B:Int->Int->BA->(LC)->(LT)->(LB)->Int->Int->Bool->OS S) (E F:Int) (J:BA) (L:LC) (M:LT) (A:LB) (v10 v20:Int) (h:Bool):OS S:=ab (decide ((v20:Int)<4)) (ab (v20==0) (aa k (axl k (ac t)) fun j=>ab (j.2.1) (ab (j.2.1) (I ((ac j.1),j.2.1,j.2.2)) (ab (!(j.2.2==0)) (I ((ac j.1),j.2.1,j.2.2)) (J1))) (ab (!(j.2.2==0)) (ab (j.2.1) (I ((ac j.1),j.2.1,j.2.2)) (ab (!(j.2.2==0)) (I ((ac j.1),j.2.1,j.2.2)) (J1))) (B j.1.kind j.1.n j.1.name j.1.r j.1.kids j.1.sys j.2.2 (su .i64 (v20+1)) j.2.1))) (ab (v20==1) (aa k (tL k (ac t)) fun q=>ab (q.2.1) (ab (q.2.1) (I ((ac q.1),q.2.1,q.2.2)) (ab (!(q.2.2==0)) (I ((ac q.1),q.2.1,q.2.2)) (J1))) (ab (!(q.2.2==0)) (ab (q.2.1) (I ((ac q.1),q.2.1,q.2.2)) (ab (!(q.2.2==0)) (I ((ac q.1),q.2.1,q.2.2)) (J1))) (B q.1.kind q.1.n q.1.name q.1.r q.1.kids q.1.sys q.2.2 (su .i64 (v20+1)) q.2.1))) (ab (v20==2) (aa k (axZ k (ac t)) fun x=>ab (x.2.1) (ab (x.2.1) (I ((ac x.1),x.2.1,x.2.2)) (ab (!(x.2.2==0)) (I ((ac x.1),x.2.1,x.2.2)) (J1))) (ab (!(x.2.2==0)) (ab (x.2.1) (I ((ac x.1),x.2.1,x.2.2)) (ab (!(x.2.2==0)) (I ((ac x.1),x.2.1,x.2.2)) (J1))) (B x.1.kind x.1.n x.1.name x.1.r x.1.kids x.1.sys x.2.2 (su .i64 (v20+1)) x.2.1))) (ab (v20==3) (aa k (cG k (ac t)) fun z=>ab (z.2.1) (ab (z.2.1) (I ((ac z.1),z.2.1,z.2.2)) (ab (!(z.2.2==0)) (I ((ac z.1),z.2.1,z.2.2)) (J1))) (ab (!(z.2.2==0)) (ab (z.2.1) (I ((ac z.1),z.2.1,z.2.2)) (ab (!(z.2.2==0)) (I ((ac z.1),z.2.1,z.2.2)) (J1))) (B z.1.kind z.1.n z.1.name z.1.r z.1.kids z.1.sys z.2.2 (su .i64 (v20+1)) z.2.1))) (ab (h) (ab (h) (I ((Tm.mk E F J L M A),h,v10)) (ab (!(v10==0)) (I ((Tm.mk E F J L M A),h,v10)) (J1))) (ab (!(v10==0)) (ab (h) (I ((Tm.mk E F J L M A),h,v10)) (ab (!(v10==0)) (I ((Tm.mk E F J L M A),h,v10)) (J1))) (B E F J L M A v10 (su .i64 (v20+1)) h))))))) (ab (h) (I ((Tm.mk E F J L M A),h,v10)) (ab (!(v10==0)) (I ((Tm.mk E F J L M A),h,v10)) (J1)))
def bH (k:Nat) (I:Tm×Bool×Int->OS S) (t:Tm) (defs:List Df):Nat->Int->Int->BA->(LC)->(LT)->(LB)->Int->Int->Bool->OS S
 |0=>fun _ _ _ _ _ _ _ _ _=> .none
 |m+1=>fun q x z A B j v10 v20 h=>bu k I t defs (bK k I t defs k) (bH k I t defs m) q x z A B j v10 v20 h
def aAp (k:Nat) (I:Tm×Bool×Int->OS S) (J0:Int->Int->BA->(LC)->(LT)->(LB)->Int->Int->Bool->OS S) (defs:List Df) (t:Tm):OS S:=aa k (asi k (ac t)) fun r1=>ab (!(r1==0)) (I ((Tm.mk 0 0 alH [] [] []),false,r1)) (J0 0 0 alH [] [] [] 0 0 false)
def a_ (k:Nat) (defs:List Df) (t:Tm) (I:Tm×Bool×Int->OS S):OS S:=aAp k I (fun q x z A B j v10 v20 h=>bH k I t defs k q x z A B j v10 v20 h) defs t
def awm (k:Nat) (I:Pan (Int×Int) (Tm×Bool×Int)->OS S) (alJ:List Df) (c0_1:Int) (r1:Tm×Bool×Int):OS S:=ab (c0_1==0) (I (.pan (220,c0_1))) (I (.ok ((ac r1.1),true,su .i64 (c0_1-1))))
def ayf (k:Nat) (I:Pan (Int×Int) (Tm×Bool×Int)->OS S) (alJ:List Df) (c0_1:Int) (r1:Tm×Bool×Int):Nat->OS S
 |0=> .none
 |_+1=>awm k I alJ c0_1 r1
def awl (k:Nat) (I:Pan (Int×Int) (Tm×Bool×Int)->OS S) (alJ:List Df) (c0_1:Int) (t:Tm) (r1:Tm×Bool×Int) (J1:OS S):OS S:=ab (!r1.2.1) (ab (r1.2.2==0) (I (.ok ((ac t),false,c0_1))) (J1)) (J1)
def azv (k:Nat) (I:Pan (Int×Int) (Tm×Bool×Int)->OS S) (alJ:List Df) (c0_1:Int) (t:Tm) (r1:Tm×Bool×Int):Nat->OS S
 |0=> .none
 |_+1=>awl k I alJ c0_1 t r1 (ayf k I alJ c0_1 r1 k)
def aAi (k:Nat) (I:Pan (Int×Int) (Tm×Bool×Int)->OS S) (J0:(Tm×Bool×Int)->OS S) (t:Tm) (alJ:List Df) (c0_1:Int):OS S:=aa k (a_ k alJ (ac t)) fun r1=>ab (!(r1.2.2==0)) (ab (decide ((c0_1:Int)>0)) (I (.pan (r1.2.2,c0_1))) (J0 r1)) (J0 r1)
def axL (k:Nat) (t:Tm) (alJ:List Df) (c0_1:Int) (I:Pan (Int×Int) (Tm×Bool×Int)->OS S):OS S:=aAi k I (fun r1=>azv k I alJ c0_1 t r1 k) t alJ c0_1
def bo (k:Nat) (I:Int->OS S) (t:Tm) (v3:Int):OS S:=aa k (zA k t.kind) fun r1=>ab (decide (((t.kids.length:Int):Int)<r1)) (I (-1)) (I v3)
def aV (k:Nat) (I:Int->OS S) (t:Tm):Nat->Int->OS S
 |0=>fun _=> .none
 |_+1=>fun v3=>bo k I t v3
def aAo (k:Nat) (I:Int->OS S) (J0:Int->OS S) (t:Tm):OS S:=ab (t.kind==6) (J0 0) (ab (t.kind==9) (J0 0) (ab (t.kind==10) (J0 0) (ab (t.kind==13) (J0 0) (ab (t.kind==18) (J0 0) (ab (t.kind==15) (J0 0) (ab (t.kind==14) (J0 0) (ab (t.kind==22) (J0 3) (ab (t.kind==27) (J0 4) (J0 (-1))))))))))
def aU (k:Nat) (t:Tm) (I:Int->OS S):OS S:=aAo k I (fun v3=>aV k I t k v3) t
abbrev arT (S:Type):=Tm->Tm->(Bool->OS S)->OS S
def axi (hd:arT S) (k:Nat) (I:Bool->OS S) (s2 s1:LT) (h:Int->OS S) (v17:Int):OS S:=ab (decide ((v17:Int)<(s1.length:Int))) (asP (af s1 v17) fun x1=>asP (af s2 v17) fun x2=>hd (ac x1) (ac x2) fun j=>ab (!j) (I false) (h (su .i64 (v17+1)))) (I true)
def av3 (hd:arT S) (k:Nat) (I:Bool->OS S) (s2 s1:LT):Nat->Int->OS S
 |0=>fun _=> .none
 |m+1=>fun v17=>axi hd k I s2 s1 (av3 hd k I s2 s1 m) v17
def aAm (hd:arT S) (k:Nat) (I:Bool->OS S) (J0:Int->OS S) (s1 s2:LT):OS S:=ab (!((s1.length:Int)==(s2.length:Int))) (I false) (J0 0)
def awv (hd:arT S) (k:Nat) (s1 s2:LT) (I:Bool->OS S):OS S:=aAm hd k I (fun v17=>av3 hd k I s2 s1 k v17) s1 s2
def axY (hd:arT S) (k:Nat) (a_x y:(Br Tm)) (I:Bool->OS S):OS S:=aa k (zz k a_x.face y.face) fun r1=>ab (r1) (aa k (awv hd k a_x.kids y.kids) fun h=>I h) (I false)
def axh (hd:arT S) (k:Nat) (I:Bool->OS S) (s2 s1:LB) (h:Int->OS S) (v17:Int):OS S:=ab (decide ((v17:Int)<(s1.length:Int))) (asP (af s1 v17) fun x1=>asP (af s2 v17) fun x2=>aa k (axY hd k x1 x2) fun j=>ab (!j) (I false) (h (su .i64 (v17+1)))) (I true)
def av2 (hd:arT S) (k:Nat) (I:Bool->OS S) (s2 s1:LB):Nat->Int->OS S
 |0=>fun _=> .none
 |m+1=>fun v17=>axh hd k I s2 s1 (av2 hd k I s2 s1 m) v17
def aAl (hd:arT S) (k:Nat) (I:Bool->OS S) (J0:Int->OS S) (s1 s2:LB):OS S:=ab (!((s1.length:Int)==(s2.length:Int))) (I false) (J0 0)
def axX (hd:arT S) (k:Nat) (s1 s2:LB) (I:Bool->OS S):OS S:=aAl hd k I (fun v17=>av2 hd k I s2 s1 k v17) s1 s2
def aAr (hd:arT S) (k:Nat) (I:Bool->OS S) (a b:Tm):OS S:=ab (a.kind==b.kind) (ab (a.n==b.n) (ab (a.name==b.name) (aa k (zz k a.r b.r) fun r1=>ab (r1) (aa k (awv hd k a.kids b.kids) fun h=>ab (h) (aa k (axX hd k a.sys b.sys) fun j=>I j) (I false)) (I false)) (I false)) (I false)) (I false)
def ate:Nat->Tm->Tm->(Bool->OS S)->OS S
 |0=>fun _ _ _=> .none
 |k+1=>fun a b I=>aAr (ate k) k I a b
abbrev atG (S:Type):=Tm->(List Df)->Int->(Pan (Int×Int) (Tm×Int)->OS S)->OS S
def auo (hd:atG S) (k:Nat) (t:Tm) (a_at:Int) (alJ:List Df) (c0_1:Int) (I:Pan (Int×Int) (Tm×Bool×Int)->OS S):OS S:=asP (af t.kids a_at) fun x1=>hd (ac x1) alJ c0_1 fun h=>Pan.elim h (fun h=>asP (af t.kids a_at) fun x5=>ate k (ac h.1) (ac x5) fun q=>ab (q) (I (.ok ((ac t),false,h.2))) (asP (aw 1099511627776 0 t.kids.length) fun x=>asP (af t.kids a_at) fun z=>asP (af t.kids a_at) fun A=>I (.ok ((Tm.mk t.kind t.n t.name t.r (t.kids.set (arM a_at) (ac h.1)) t.sys),true,h.2)))) (fun j=>I (.pan (j.1,j.2)))
def ayZ (hd:atG S) (k:Nat) (I:Pan (Int×Int) (Tm×Int)->OS S) (alJ:List Df) (j:Int->Tm->OS S) (E:Int) (h:Tm):OS S:=aa k (axL k (ac h) alJ E) fun x=>Pan.elim x (fun x=>ab (x.2.1) (j x.2.2 (ac x.1)) (aa k (aU k (ac h)) fun J=>ab (decide ((J:Int)>=0)) (aa k (auo hd k (ac h) J alJ x.2.2) fun z=>Pan.elim z (fun z=>ab (z.2.1) (j z.2.2 (ac z.1)) (ab (h.kind==14) (asP (af h.kids 0) fun O=>ab (O.kind==23) (aa k (auo hd k (ac h) 1 alJ z.2.2) fun q=>Pan.elim q (fun q=>ab (q.2.1) (j q.2.2 (ac q.1)) (I (.ok ((ac h),q.2.2)))) (fun A=>I (.pan (A.1,A.2)))) (I (.ok ((ac h),z.2.2)))) (I (.ok ((ac h),z.2.2))))) (fun L=>I (.pan (L.1,L.2)))) (ab (h.kind==14) (asP (af h.kids 0) fun F=>ab (F.kind==23) (aa k (auo hd k (ac h) 1 alJ x.2.2) fun r14=>Pan.elim r14 (fun r14=>ab (r14.2.1) (j r14.2.2 (ac r14.1)) (I (.ok ((ac h),r14.2.2)))) (fun B=>I (.pan (B.1,B.2)))) (I (.ok ((ac h),x.2.2)))) (I (.ok ((ac h),x.2.2)))))) (fun M=>I (.pan (M.1,M.2)))
def aue (hd:atG S) (k:Nat) (I:Pan (Int×Int) (Tm×Int)->OS S) (alJ:List Df):Nat->Int->Tm->OS S
 |0=>fun _ _=> .none
 |m+1=>fun h j=>ayZ hd k I alJ (aue hd k I alJ m) h j
def ayL (hd:atG S) (k:Nat) (I:Pan (Int×Int) (Tm×Int)->OS S) (J0:Int->Tm->OS S) (t:Tm) (alJ:List Df) (c0_1:Int):OS S:=J0 c0_1 (ac t)
def ar1:Nat->Tm->(List Df)->Int->(Pan (Int×Int) (Tm×Int)->OS S)->OS S
 |0=>fun _ _ _ _=> .none
 |k+1=>fun t alJ c0_1 I=>ayL (ar1 k) k I (fun h j=>aue (ar1 k) k I alJ k h j) t alJ c0_1
def auI (k:Nat) (defs:List Df) (t:Tm) (fuel:Int) (I:Tm×Int×Int->OS S):OS S:=aa k (asi k (ac t)) fun r1=>ab (!(r1==0)) (I ((Tm.mk 0 0 alH [] [] []),0,r1)) (ab (decide ((fuel:Int)<0)) (I ((Tm.mk 0 0 alH [] [] []),0,2)) (ab (decide ((fuel:Int)>100000)) (I ((Tm.mk 0 0 alH [] [] []),0,2)) (dJ k (ac t) fun j=>ar1 k (ac j) defs fuel fun h=>Pan.elim h (fun h=>I ((ac h.1),h.2,0)) (fun q=>I ((Tm.mk 0 0 alH [] [] []),0,q.1)))))
def axR (k:Nat) (I:Bool->OS S):OS S:=aa k (aub k 1 ([]:LT)) fun r1=>aa k (aub k 5 [(Tm.mk r1.1 r1.2.1 r1.2.2.1 [] r1.2.2.2 [])]) fun q=>aa k (aub k 20 ([]:LT)) fun x=>aa k (aub k 8 [(Tm.mk q.1 q.2.1 q.2.2.1 [] q.2.2.2 []),(Tm.mk x.1 x.2.1 x.2.2.1 [] x.2.2.2 [])]) fun z=>aa k (aub k 9 [(Tm.mk z.1 z.2.1 z.2.2.1 [] z.2.2.2 [])]) fun j=>aa k (aub k 3 ([]:LT)) fun A=>aa k (aub k 6 [(Tm.mk j.1 j.2.1 j.2.2.1 [] j.2.2.2 []),(Tm.mk A.1 A.2.1 A.2.2.1 [] A.2.2.2 [])]) fun B=>aa k (auI k ([]:List Df) (Tm.mk B.1 B.2.1 B.2.2.1 [] B.2.2.2 []) 5) fun F=>aa k (aub k 3 ([]:LT)) fun E=>aa k (aub k 6 [(Tm.mk j.1 j.2.1 j.2.2.1 [] j.2.2.2 []),(Tm.mk E.1 E.2.1 E.2.2.1 [] E.2.2.2 [])]) fun h=>aa k (auI k ([]:List Df) (Tm.mk h.1 h.2.1 h.2.2.1 [] h.2.2.2 []) 1) fun J=>ab (F.2.2==0) (ab (F.1.kind==3) (ab (F.2.1==3) (I (J.2.2==220)) (I false)) (I false)) (I false)
abbrev gY (S:Type):=Tm->Int->(Int->OS S)->OS S
def xL (hd:gY S) (k:Nat) (I:Int->OS S) (t:Tm) (most i7:Int) (j:Int->Int->OS S) (q:Int->Int->OS S) (h x:Int):OS S:=asP (af t.sys i7) fun x5=>ab (decide ((x:Int)<(x5.kids.length:Int))) (ab (decide ((h:Int)<=most)) (asP (af t.sys i7) fun x6=>asP (af x6.kids x) fun z=>hd (ac z) (su .i64 (most-h)) fun A=>q (su .i64 (h+A)) (su .i64 (x+1))) (j h (su .i64 (i7+1)))) (j h (su .i64 (i7+1)))
def kA (hd:gY S) (k:Nat) (I:Int->OS S) (h:Int->Int->OS S) (t:Tm) (most i7:Int):Nat->Int->Int->OS S
 |0=>fun _ _=> .none
 |m+1=>fun j q=>xL hd k I t most i7 h (kA hd k I h t most i7 m) j q
def sS (hd:gY S) (k:Nat) (I:Int->OS S) (t:Tm) (most:Int) (J2:Int->Int->Int->OS S) (j:Int->Int->OS S) (h i7:Int):OS S:=ab (decide ((i7:Int)<(t.sys.length:Int))) (ab (decide ((h:Int)<=most)) (asP (af t.sys i7) fun x3=>ab (decide (((x3.face.length:Int):Int)>most)) (I (su .i64 (most+1))) (asP (af t.sys i7) fun x4=>J2 i7 (su .i64 ((su .i64 (h+1))+(x4.face.length:Int))) 0)) (I h)) (I h)
def jl (hd:gY S) (k:Nat) (I:Int->OS S) (t:Tm) (most:Int):Nat->Int->Int->OS S
 |0=>fun _ _=> .none
 |m+1=>fun j i7=>sS hd k I t most (fun i7 h q=>kA hd k I (jl hd k I t most m) t most i7 k h q) (jl hd k I t most m) j i7
def sR (hd:gY S) (k:Nat) (I:Int->OS S) (t:Tm) (most:Int) (J1:Int->Int->OS S) (h:Int->Int->OS S) (v5 i6:Int):OS S:=ab (decide ((i6:Int)<(t.kids.length:Int))) (ab (decide ((v5:Int)<=most)) (asP (af t.kids i6) fun x1=>hd (ac x1) (su .i64 (most-v5)) fun j=>h (su .i64 (v5+j)) (su .i64 (i6+1))) (J1 v5 0)) (J1 v5 0)
def nQ (hd:gY S) (k:Nat) (I:Int->OS S) (t:Tm) (most:Int):Nat->Int->Int->OS S
 |0=>fun _ _=> .none
 |m+1=>fun v5 i6=>sR hd k I t most (fun h i7=>jl hd k I t most k h i7) (nQ hd k I t most m) v5 i6
def Io (hd:gY S) (k:Nat) (I:Int->OS S) (J0:Int->Int->OS S) (t:Tm) (most:Int):OS S:=ab (decide (((t.r.length:Int):Int)>most)) (I (su .i64 (most+1))) (ab (decide (((t.name.size:Int):Int)>most)) (I (su .i64 (most+1))) (J0 (su .i64 ((su .i64 (1+(t.r.length:Int)))+(t.name.size:Int))) 0))
def gE:Nat->Tm->Int->(Int->OS S)->OS S
 |0=>fun _ _ _=> .none
 |k+1=>fun t most I=>Io (gE k) k I (fun v5 i6=>nQ (gE k) k I t most k v5 i6) t most
def axP (k:Nat) (t:Tm) (I:Bool->OS S):OS S:=gE k (ac t) 80 fun r1=>I (decide ((r1:Int)>80))
def axO (k:Nat) (t:Tm) (I:Bool->OS S):OS S:=gE k (ac t) 100 fun r1=>I (decide ((r1:Int)>100))
def axg (k:Nat) (I:Bool->OS S) (l:List Df) (h:Int->OS S) (v10:Int):OS S:=ab (decide ((v10:Int)<(l.length:Int))) (asP (af l v10) fun x1=>aa k (axO k (ac x1.body)) fun j=>ab (j) (I true) (ab (decide (((x1.name.size:Int):Int)>50)) (I true) (h (su .i64 (v10+1))))) (I false)
def ave (k:Nat) (I:Bool->OS S) (l:List Df):Nat->Int->OS S
 |0=>fun _=> .none
 |m+1=>fun v10=>axg k I l (ave k I l m) v10
def aAk (k:Nat) (I:Bool->OS S) (J0:Int->OS S) (l:List Df):OS S:=ab (decide (((l.length:Int):Int)>8)) (I true) (J0 0)
def axN (k:Nat) (l:List Df) (I:Bool->OS S):OS S:=aAk k I (fun v10=>ave k I l k v10) l
def axf (k:Nat) (I:List Df->OS S) (l:List Df) (j:(List Df)->Int->OS S) (h:List Df) (q:Int):OS S:=ab (decide ((q:Int)<(l.length:Int))) (asP (af l q) fun x1=>asP (aw 1099511627776 h.length [(ax9 x1)].length) fun x2=>j (h++[(ax9 x1)]) (su .i64 (q+1))) (I h)
def av0 (k:Nat) (I:List Df->OS S) (l:List Df):Nat->(List Df)->Int->OS S
 |0=>fun _ _=> .none
 |m+1=>fun h j=>axf k I l (av0 k I l m) h j
def aAj (k:Nat) (I:List Df->OS S) (J0:(List Df)->Int->OS S) (l:List Df):OS S:=J0 ([]:List Df) 0
def axM (k:Nat) (l:List Df) (I:List Df->OS S):OS S:=aAj k I (fun h j=>av0 k I l k h j) l
def awt (k:Nat) (a_n:Int) (I:Int->OS S):OS S:=ab (decide ((a_n:Int)<0)) (I a_n) (ab (decide ((a_n:Int)>100000)) (I a_n) (I (Int.tmod a_n 25)))
def oT (k:Nat) (I:Bool->OS S) (a b:LC) (h:Int->OS S) (i5:Int):OS S:=ab (decide ((i5:Int)<(a.length:Int))) (asP (af a i5) fun x1=>asP (af b i5) fun x2=>ab (!((x1.pos==x2.pos)&&((x1.neg==x2.neg)&&true))) (I false) (h (su .i64 (i5+1)))) (I true)
def ky (k:Nat) (I:Bool->OS S) (a b:LC):Nat->Int->OS S
 |0=>fun _=> .none
 |m+1=>fun i5=>oT k I a b (ky k I a b m) i5
def BV (k:Nat) (I:Bool->OS S) (J0:Int->OS S) (a b:LC):OS S:=ab (!((a.length:Int)==(b.length:Int))) (I false) (J0 0)
def jY (k:Nat) (a b:LC) (I:Bool->OS S):OS S:=BV k I (fun i5=>ky k I a b k i5) a b
abbrev eN (S:Type):=Tm->Tm->(Bool->OS S)->OS S
def xQ (hd:eN S) (k:Nat) (I:Bool->OS S) (a b:LT) (h:Int->OS S) (i5:Int):OS S:=ab (decide ((i5:Int)<(a.length:Int))) (asP (af a i5) fun x1=>asP (af b i5) fun x2=>hd (ac x1) (ac x2) fun j=>ab (!j) (I false) (h (su .i64 (i5+1)))) (I true)
def qH (hd:eN S) (k:Nat) (I:Bool->OS S) (a b:LT):Nat->Int->OS S
 |0=>fun _=> .none
 |m+1=>fun i5=>xQ hd k I a b (qH hd k I a b m) i5
def It (hd:eN S) (k:Nat) (I:Bool->OS S) (J0:Int->OS S) (a b:LT):OS S:=ab (!((a.length:Int)==(b.length:Int))) (I false) (J0 0)
def tX (hd:eN S) (k:Nat) (a b:LT) (I:Bool->OS S):OS S:=It hd k I (fun i5=>qH hd k I a b k i5) a b
def xO (hd:eN S) (k:Nat) (I:Bool->OS S) (a b:Tm) (h:Int->OS S) (i5:Int):OS S:=ab (decide ((i5:Int)<(a.sys.length:Int))) (asP (af a.sys i5) fun x3=>asP (af b.sys i5) fun x4=>aa k (jY k x3.face x4.face) fun j=>ab (!j) (I false) (asP (af a.sys i5) fun x6=>asP (af b.sys i5) fun q=>aa k (tX hd k x6.kids q.kids) fun x=>ab (!x) (I false) (h (su .i64 (i5+1))))) (I true)
def av1 (hd:eN S) (k:Nat) (I:Bool->OS S) (a b:Tm):Nat->Int->OS S
 |0=>fun _=> .none
 |m+1=>fun i5=>xO hd k I a b (av1 hd k I a b m) i5
def Ir (hd:eN S) (k:Nat) (I:Bool->OS S) (J0:Int->OS S) (a b:Tm):OS S:=ab (!(a.kind==b.kind)) (I false) (ab (!(a.n==b.n)) (I false) (ab (!(a.name==b.name)) (I false) (aa k (jY k a.r b.r) fun r1=>ab (!r1) (I false) (aa k (tX hd k a.kids b.kids) fun h=>ab (!h) (I false) (ab (!((a.sys.length:Int)==(b.sys.length:Int))) (I false) (J0 0))))))
def d8:Nat->Tm->Tm->(Bool->OS S)->OS S
 |0=>fun _ _ _=> .none
 |k+1=>fun a b I=>Ir (d8 k) k I (fun i5=>av1 (d8 k) k I a b k i5) a b
def axQ (k:Nat) (defs:List Df) (t:Tm) (fuel more:Int) (I:Bool->OS S):OS S:=aa k (axR k) fun r1=>ab (!r1) (I false) (aa k (axP k (ac t)) fun x=>ab (x) (I true) (aa k (axN k defs) fun z=>ab (z) (I true) (ab (decide ((fuel:Int)<0)) (I true) (ab (decide ((fuel:Int)>100000)) (I true) (aa k (axM k defs) fun q=>aa k (awt k fuel) fun A=>aa k (auI k q (ac t) A) fun h=>aa k (awt k fuel) fun B=>aa k (auI k q (ac t) (su .i64 (B+(su .i64 (Int.tmod (su .u64 more) 10))))) fun j=>ab (h.2.2==220) (I true) (ab (!(h.2.2==j.2.2)) (I false) (d8 k (ac h.1) (ac j.1) fun E=>ab (!E) (I false) (ab (!(h.2.2==0)) (I true) (I (j.2.1==(su .i64 (h.2.1+(su .i64 (Int.tmod (su .u64 more) 10))))))))))))))
abbrev aDD (S:Type):=Tm->(Int->OS S)->OS S
abbrev aAC (S:Type):=(List Df)->Tm->Int->(Tm×Int×Int->OS S)->OS S
abbrev aDE (S:Type):=(List Df)->Tm->(Bool->OS S)->OS S
end
end Go.Proofs.YtgmmefmmnakbpaaGreatDoor
namespace Go.Proofs.YtgmmefmmnakbpaaGreatDoor
open Go PI
abbrev M24:Nat:=16777215
theorem N4 {n:Nat} (h:n<24):2^n<4294967296:=Nat.lt_of_lt_of_le (Nat.pow_lt_pow_right (by decide) h) (by decide)
theorem Dt (n:Nat):(2:Int)^n=((2^n:Nat):Int):=by simp
theorem Es (m n:Nat):Int.fdiv (m:Int) ((2:Int)^n)=((m/2^n:Nat):Int):=by
 grind
variable {S:Type} {k:Nat}
theorem BM (hk:Fu k) (i:Int) (I:Bool->OS S):nd k i I=I (decide (0<=i/\i<24)):=by
 grind [nd,aY]
theorem akm (hk:Fu k) {m:Nat} (q:m<4294967296) (I:Bool->OS S):pm k (m:Int) I=I (decide (m<16777216)):=by
 simp only [pm]
 rw [show (16777215:Int)=((16777215:Nat):Int) from rfl,C_ q (by decide)]
 congr 1
 rw [Bool.eq_iff_iff]
 simp only [beq_iff_eq,decide_eq_true_eq]
 have key:dL m 16777215=0↔m<16777216:=by
  constructor
  ·intro h
   apply Nat.lt_pow_two_of_testBit (n:=24)
   intro i j
   have h2:=mm m 16777215 i
   rw [h,Nat.zero_testBit] at h2
   have:(16777215:Nat).testBit i=false:=Nat.testBit_lt_two_pow (Nat.lt_of_lt_of_le (by decide:16777215<2^24) (Nat.pow_le_pow_right (by decide) j))
   grind
  ·intro h
   apply Nat.eq_of_testBit_eq
   intro i
   rw [mm,Nat.zero_testBit]
   by_cases j:i<24
   ·have:(16777215:Nat).testBit i=true:=by
     rw [show (16777215:Nat)=2^24-1 from rfl,Nat.testBit_two_pow_sub_one];grind
    grind
   ·have h2:(2:Nat)^24<=2^i:=Nat.pow_le_pow_right (by decide) (by omega)
    grind [Nat.testBit_lt_two_pow]
 omega
theorem akk (hk:Fu k) {m:Nat} (j:m<4294967296) (i:Int) (I:Bool->OS S):amz k (m:Int) i I=I (decide (0<=i/\i<24)&&m.testBit i.toNat):=by
 simp only [amz,BM hk,ag hk]
 by_cases h:0<=i/\i<24
 ·obtain ⟨n,rfl⟩: ∃n:Nat,i=n:=⟨i.toNat,by omega⟩
  have hn:n<24:=by omega
  rw [decide_eq_true h,ae,Bool.true_and,iR n (by omega),fN _ (by omega)]
  congr 1
  rw [asG,Nat.min_eq_left (by omega),Es,show (1:Int)=((1:Nat):Int) from rfl,lj (Nat.lt_of_le_of_lt (Nat.div_le_self _ _) j) (by decide)]
  grind
 grind [n3]
theorem akn (hk:Fu k) {m:Nat} (j:m<4294967296) (i:Int) (I:Int->OS S):i_ k (m:Int) i I=I (if 0<=i/\i<24 then (((m&&&M24)|||2^i.toNat:Nat):Int) else ((m&&&M24:Nat):Int)):=by
 simp only [i_,BM hk,ag hk]
 have hand:bj .and .u32 (m:Int) 16777215=((m&&&M24:Nat):Int):=lj j (by decide:(16777215:Nat)<4294967296)
 have q:m&&&M24<4294967296:=aye (n:=32) j
 rw [hand]
 by_cases h:0<=i/\i<24
 ·obtain ⟨n,rfl⟩: ∃n:Nat,i=n:=⟨i.toNat,by omega⟩
  grind [iR,n3,fN,asG,ld,N4,wK]
 ·rw [decide_eq_false h,if_neg h];rfl
theorem ako (hk:Fu k) {m:Nat} (j:m<4294967296) (i:Int) (I:Int->OS S):jX k (m:Int) i I=I (if 0<=i/\i<24 then ((dL (m&&&M24) (2^i.toNat):Nat):Int) else ((m&&&M24:Nat):Int)):=by
 simp only [jX,BM hk,ag hk]
 have hand:bj .and .u32 (m:Int) 16777215=((m&&&M24:Nat):Int):=lj j (by decide:(16777215:Nat)<4294967296)
 have q:m&&&M24<4294967296:=aye (n:=32) j
 rw [hand]
 by_cases h:0<=i/\i<24
 ·grind [iR,n3,fN,asG,ld,N4,C_]
 ·rw [decide_eq_false h,if_neg h];rfl
theorem R5 (hk:Fu k) (n:Nat) (hn:n<18446744073709551616) (I:Int->OS S):pn k (n:Int) I=I ((2^min n 24-1:Nat):Int):=by
 simp only [pn]
 have e:(if (24:Int)<(n:Int) then (24:Int) else (n:Int))=((min n 24:Nat):Int):=by
  omega
 rw [e,iR _ (by omega),fN _ (by omega),asG]
 congr 1
 generalize j:min n 24=q
 have h:q<=24:=by omega
 rw [Nat.min_eq_left (by omega),Int.one_mul,Dt]
 have h1:2^q<=2^24:=Nat.pow_le_pow_right (by decide) h
 grind [iR,ld]
def gO (m n:Nat):Nat:=(m&&&M24)&&&(2^min n 24-1)
def dl (m n:Nat):Nat:=dL (m&&&M24) (2^min n 24-1)
def amc (m n b:Nat):Nat×Nat:=
 if dl m n=0 then (gO m n,0) else if 24<=b then (0,10) else if dl m n*2^b>16777215 then (0,10) else (gO m n|||(dl m n*2^b),0)
theorem akl (hk:Fu k) {m:Nat} (E:m<4294967296) (n b:Nat) (hn:n<9223372036854775808) (hb:b<9223372036854775808) (I:Int×Int->OS S):
  lx k (m:Int) (n:Int) (b:Int) I=I (((amc m n b).1:Int),((amc m n b).2:Int)):=by
 have hand:bj .and .u32 (m:Int) 16777215=((m&&&M24:Nat):Int):=lj E (by decide:(16777215:Nat)<4294967296)
 have x:m&&&M24<16777216:=Nat.lt_of_le_of_lt Nat.and_le_right (by decide)
 have j:2^min n 24-1<4294967296:=by
  have:2^min n 24<=2^24:=Nat.pow_le_pow_right (by decide) (by omega)
  omega
 have z:dl m n<16777216:=vq (n:=24) x
 have q:bj .and .u32 ((m&&&M24:Nat):Int) ((2^min n 24-1:Nat):Int)=((gO m n:Nat):Int):=lj (by omega) j
 have h:bj .andNot .u32 ((m&&&M24:Nat):Int) ((2^min n 24-1:Nat):Int)=((dl m n:Nat):Int):=C_ (by omega) j
 simp only [lx]
 rw [aY,aY,if_neg (by omega),if_neg (by omega)]
 simp only [R5 hk n (by omega),ag hk,hand,q,h]
 rw [iR _ (by omega)]
 unfold amc
 by_cases F:dl m n=0
 ·grind [ae]
 ·rw [if_neg F]
  have A:(((dl m n:Nat):Int)==0)=false:=by
   grind
  simp only [A,n3,aY]
  by_cases B:24<=b
  ·grind
  ·rw [if_neg (by omega),if_neg B,iR b (by omega),fN _ (by omega),asG,Nat.min_eq_left (by omega),Dt]
   have hp:2^b<=2^23:=Nat.pow_le_pow_right (by decide) (by omega)
   have J:(2:Nat)^23=8388608:=by decide
   have hmul:dl m n*2^b<18446744073709551616:=by
    have:=Nat.mul_le_mul (Nat.le_of_lt z) hp
    omega
   have L:((dl m n:Nat):Int)*((2^b:Nat):Int)=((dl m n*2^b:Nat):Int):=by simp
   rw [L,iR _ hmul]
   by_cases M:dl m n*2^b>16777215
   ·grind
   ·rw [if_neg (by omega),if_neg M]
    rw [ld _ (by omega),fN _ (by omega),wK (by grind [gO,Nat.and_le_left]) (by omega)]
    rfl
set_option maxRecDepth 20000
variable {S:Type} {k:Nat}
def alK (l:List Nat):Nat:=(l.map (2^ ·)).sum
theorem Zr {x a:Nat} (h:x.testBit a=false):x+2^a=x|||2^a:=by
 have h1:x=2^(a+1)*(x/2^(a+1))+x%2^(a+1):=(Nat.div_add_mod _ _).symm
 have j:x%2^(a+1)<2^a:=by
  have hb:(x%2^(a+1)).testBit a=false:=by grind
  grind [Nat.lt_pow_two_of_testBit,Nat.testBit_lt_two_pow]
 generalize x/2^(a+1)=q at h1
 generalize x%2^(a+1)=r at h1 j
 have hp:(2:Nat)^(a+1)=2^a*2:=Nat.pow_succ 2 a
 have z:2^a+r=2^a|||r:=by
  have:=Nat.two_pow_add_eq_or_of_lt j 1
  grind
 have A:x=2^(a+1)*q|||r:=by grind [Nat.two_pow_add_eq_or_of_lt]
 grind [Nat.two_pow_add_eq_or_of_lt]
theorem oG: ∀ (l:List Nat),l.Nodup-> ∀j,(alK l).testBit j=decide (j∈l):=by
 intro l
 induction l with
 |nil=>grind [alK]
 |cons a l q=>
  intro hn j
  have h:=List.nodup_cons.1 hn
  have ha:(alK l).testBit a=false:=by grind
  have e:alK (a::l)=alK l|||2^a:=by
   grind [Zr,alK]
  grind
def bW (m:Nat):List Nat:=(arU 24).filter m.testBit
theorem oY (m:Nat):(bW m).Nodup:=List.nodup_range.filter _
theorem mem_bitsN {m j:Nat}:j∈bW m↔j<24/\m.testBit j=true:=by simp [bW]
theorem gu (m:Nat):(bW m).length<=24:=by
 grind [bW]
theorem g8 (j:Nat):M24.testBit j=decide (j<24):=by
 rw [show M24=2^24-1 from rfl,Nat.testBit_two_pow_sub_one]
def ints (l:List Nat):List Int:=l.map Int.ofNat
theorem amb (l:List Nat):(ints l).length=l.length:=by simp [ints]
theorem uB {α:Type} (p r:List α) (x:α):af (p++x::r) (p.length:Int)=some x:=by simp [af]
theorem oZ {m:Nat} (h:m<16777216) {j:Nat} (hj:m.testBit j=true):j<24:=by
 apply Classical.byContradiction
 intro hn
 have:m<2^j:=Nat.lt_of_lt_of_le h (Nat.pow_le_pow_right (n:=2) (i:=24) (j:=j) (by decide) (by omega))
 grind [Nat.testBit_lt_two_pow]
theorem LN (m:Nat):m<16777216↔ ∀j,m.testBit j=true->j<24:=by
 constructor
 ·intro h j hj;exact oZ h hj
 ·intro h
  apply Nat.lt_pow_two_of_testBit (n:=24)
  grind
def up1 (n b x:Nat):Nat:=if x<n then x else x+b
theorem Dl (m n j:Nat):(gO m n).testBit j=(m.testBit j&&decide (j<n/\j<24)):=by
 grind [gO,g8]
theorem Js (m n j:Nat):(dl m n).testBit j=(m.testBit j&&decide (n<=j/\j<24)):=by
 grind [dl,mm,g8]
theorem Fg (m n b:Nat):amc m n b=if (∃x∈bW m,n<=x/\24<=x+b) then (0,10) else (alK ((bW m).map (up1 n b)),0):=by
 have z:((bW m).map (up1 n b)).Nodup:=by
  grind [up1,oY]
 have B: ∀j,(alK ((bW m).map (up1 n b))).testBit j=((gO m n).testBit j||(decide (b<=j)&&(dl m n).testBit (j-b))):=by
  intro j
  rw [oG _ z,Dl,Js,Bool.eq_iff_iff]
  simp only [decide_eq_true_eq,arR,mem_bitsN,Bool.or_eq_true,anZ]
  grind [up1]
 have h: ∀j,(dl m n).testBit j=true↔(j∈bW m/\n<=j):=by
  grind [Js,mem_bitsN]
 unfold amc
 by_cases A:dl m n=0
 ·rw [if_pos A,if_neg]
  ·congr 1
   apply Nat.eq_of_testBit_eq
   grind
  grind
 ·rw [if_neg A]
  have hex: ∃j,(dl m n).testBit j=true:=by
   apply Classical.byContradiction
   intro F
   apply A
   apply Nat.eq_of_testBit_eq
   grind
  have hmul: ∀j,(dl m n*2^b).testBit j=(decide (b<=j)&&(dl m n).testBit (j-b)):=by
   grind
  by_cases q:24<=b
  ·rw [if_pos q]
   obtain ⟨j,hj⟩:=hex
   have:=(h j).1 hj
   rw [if_pos ⟨j,this.1,this.2,by omega⟩]
  ·rw [if_neg q]
   have I:=LN (dl m n*2^b)
   by_cases E:dl m n*2^b>16777215
   ·rw [if_pos E,if_pos]
    grind
   ·rw [if_neg E,if_neg]
    ·congr 1
     apply Nat.eq_of_testBit_eq
     grind
    ·rintro ⟨x,h1,h2,J⟩
     have L:(dl m n*2^b).testBit (x+b)=true:=by
      simp_all
     grind
def j7 (m:Nat) (i:Int):Nat:=if 0<=i/\i<24 then gO m i.toNat|||((m&&&M24)/2^(i.toNat+1)*2^i.toNat) else m&&&M24
theorem akj (hk:Fu k) {m:Nat} (q:m<4294967296) (i:Int) (I:Int->OS S):pk k (m:Int) i I=I ((j7 m i:Nat):Int):=by
 simp only [pk,BM hk,ag hk]
 have hand:bj .and .u32 (m:Int) 16777215=((m&&&M24:Nat):Int):=lj q (by decide:(16777215:Nat)<4294967296)
 have x:m&&&M24<16777216:=Nat.lt_of_le_of_lt Nat.and_le_right (by decide)
 rw [hand]
 unfold j7
 by_cases h:0<=i/\i<24
 ·obtain ⟨n,rfl⟩: ∃n:Nat,i=n:=⟨i.toNat,by omega⟩
  have hn:n<24:=by omega
  rw [decide_eq_true h,if_pos h,aq6,n3,R5 hk n (by omega)]
  have z:(n:Int)+1=((n+1:Nat):Int):=by simp
  rw [alX (by omega) (by omega),z,iR _ (by omega),iR _ (by omega),fN _ (by omega),fN _ (by omega)]
  rw [asG,asG,Nat.min_eq_left (show n+1<=32 by omega),Nat.min_eq_left (show n<=32 by omega),Es,Dt]
  have hb:2^min n 24-1<4294967296:=by
   have:2^min n 24<=2^24:=Nat.pow_le_pow_right (by decide) (by omega)
   omega
  have B:(m&&&M24)/2^(n+1)*2^n<=m&&&M24:=by
   have h1:(m&&&M24)/2^(n+1)*2^(n+1)<=m&&&M24:=Nat.div_mul_le_self _ _
   have h2:2^n<=2^(n+1):=Nat.pow_le_pow_right (by decide) (by omega)
   exact aru (Nat.mul_le_mul_left _ h2) h1
  have A:((((m&&&M24)/2^(n+1):Nat):Int))*((2^n:Nat):Int)=(((m&&&M24)/2^(n+1)*2^n:Nat):Int):=by simp
  rw [A,ld _ (by omega),lj (by omega) hb]
  have j:gO m n<4294967296:=by grind [gO,Nat.and_le_left]
  show I (bj .or .u32 ((gO m n:Nat):Int) _)=_
  rw [wK j (by omega)]
 ·rw [decide_eq_false h,if_neg h];rfl
def aG (n:Int):Prop:= -9223372036854775808<=n/\n<9223372036854775808
def oC (s:Int):Bool:=decide (s<16777216)
def bP (s i:Int):Bool:=decide (0<=i/\i<24)&&s.toNat.testBit i.toNat
def e_ (s i:Int):Int:=if 0<=i/\i<24 then (((s.toNat&&&M24)|||2^i.toNat:Nat):Int) else ((s.toNat&&&M24:Nat):Int)
def alW (s i:Int):Int:=if 0<=i/\i<24 then ((dL (s.toNat&&&M24) (2^i.toNat):Nat):Int) else ((s.toNat&&&M24:Nat):Int)
def amp (s:Int):List Int:=ints (bW s.toNat)
def alS (s i b:Int):Int×Int:=if i<0\/b<0 then (0,2) else (((amc s.toNat i.toNat b.toNat).1:Int),((amc s.toNat i.toNat b.toNat).2:Int))
def pI (s i:Int):Int:=((j7 s.toNat i:Nat):Int)
theorem QE (m:Nat):oC (m:Int)=decide (m<16777216):=by
 grind [oC]
theorem Q9 (hk:Fu k) {s:Int} (h:U32 s) (I:Bool->OS S):pm k s I=I (oC s):=by
 obtain ⟨m,j,rfl⟩:=h.nat
 rw [akm hk j,QE]
theorem rF (hk:Fu k) {s:Int} (h:U32 s) (i:Int) (I:Bool->OS S):amz k s i I=I (bP s i):=by
 obtain ⟨m,j,rfl⟩:=h.nat
 rw [akk hk j];rfl
theorem vV (hk:Fu k) {s:Int} (h:U32 s) (i:Int) (I:Int->OS S):i_ k s i I=I (e_ s i):=by
 obtain ⟨m,j,rfl⟩:=h.nat
 rw [akn hk j];rfl
theorem vW (hk:Fu k) {s:Int} (h:U32 s) (i:Int) (I:Int->OS S):jX k s i I=I (alW s i):=by
 obtain ⟨m,j,rfl⟩:=h.nat
 rw [ako hk j];rfl
theorem Ny {s:Int} (h:U32 s):ra s=amp s:=by
 obtain ⟨m,j,rfl⟩:=h.nat
 have: ∀i:Nat,(BitVec.ofInt 32 (m:Int)).getLsbD i=m.testBit i:=by
  grind
 simp_all [ra,amp,ints,bW]
theorem Q6 (hk:Fu k) {s i b:Int} (h:U32 s) (j:aG i) (hb:aG b) (I:Int×Int->OS S):lx k s i b I=I (alS s i b):=by
 obtain ⟨m,q,rfl⟩:=h.nat
 by_cases h1:i<0
 ·grind [lx,aY,alS]
 by_cases h2:b<0
 ·grind [lx,aY,alS]
 obtain ⟨n,rfl⟩: ∃n:Nat,i=n:=⟨i.toNat,by omega⟩
 obtain ⟨c,rfl⟩: ∃n:Nat,b=n:=⟨b.toNat,by omega⟩
 have:=j.2;have:=hb.2
 grind [akl,alS]
theorem Q4 (hk:Fu k) {s:Int} (h:U32 s) (i:Int) (I:Int->OS S):pk k s i I=I (pI s i):=by
 obtain ⟨m,j,rfl⟩:=h.nat
 rw [akj hk j];rfl
theorem Dy (hk:Fu k) (I:Int->OS S):lw k 0 I=I 0:=by
 simp only [lw,ag hk];rfl
theorem Dz (hk:Fu k) (I:Int->OS S): ∀n:Nat,n<24->lw k ((2^n:Nat):Int) I=I 1:=by
 simp only [lw,ag hk]
 intro n hn
 match n,hn with
 |0,_|1,_|2,_|3,_|4,_|5,_|6,_|7,_|8,_|9,_|10,_|11,_|12,_|13,_|14,_|15,_|16,_|17,_|18,_|19,_|20,_|21,_|22,_|23,_=>rfl
 |n+24,h=>omega
theorem B7 (i:Int):e_ 0 i=if 0<=i/\i<24 then ((2^i.toNat:Nat):Int) else 0:=by
 grind [e_]
theorem ai7 (hk:Fu k) (i:Int) (I:Bool->OS S):yE k i I=I (decide (0<=i/\i<24)):=by
 simp only [yE,ag hk,vV hk (s:=0) ⟨by omega,by omega⟩,B7]
 grind [Dz,Dy]
theorem ai8 (hk:Fu k) (i:Int) (I:Bool->OS S):yK k i I=I (decide (0<=i/\i<24)):=by
 simp only [yK,ag hk,vV hk (s:=0) ⟨by omega,by omega⟩,B7]
 grind [Dz,Dy]
theorem U32.of {n:Nat} (h:n<4294967296):U32 (n:Int):=⟨by omega,by omega⟩
theorem ao2 {s i:Int}:0<=e_ s i/\e_ s i<16777216:=by
 have h1:s.toNat&&&M24<16777216:=Nat.lt_of_le_of_lt Nat.and_le_right (by decide)
 unfold e_
 split
 ·next h=>
  have hp:2^i.toNat<2^24:=Nat.pow_lt_pow_right (by decide) (by omega)
  have:=Nat.or_lt_two_pow (n:=24) h1 hp
  omega
 ·omega
theorem Jd {s i:Int}:0<=alW s i/\alW s i<16777216:=by
 have h1:s.toNat&&&M24<16777216:=Nat.lt_of_le_of_lt Nat.and_le_right (by decide)
 unfold alW
 split
 ·have:=vq (n:=24) (b:=2^i.toNat) h1
  omega
 ·omega
theorem aam (m:Nat) (i:Int):j7 m i<16777216:=by
 have h1:m&&&M24<16777216:=Nat.lt_of_le_of_lt Nat.and_le_right (by decide)
 unfold j7
 split
 ·rw [LN]
  grind [Dl,g8]
 omega
deriving instance DecidableEq for Cl
theorem Cl.ext' {a b:Cl} (h1:a.pos=b.pos) (h2:a.neg=b.neg):a=b:=by cases a<;>simp_all
theorem lm (a b:Cl):((a.pos==b.pos)&&((a.neg==b.neg)&&true))=decide (a=b):=by
 grind [Cl.ext']
def aX (c:Cl):Prop:=U32 c.pos/\U32 c.neg
def aq (f:LC):Prop:= ∀c∈f,aX c
def fE (c:Cl):Bool:=oC c.pos&&oC c.neg
def RC (c:Cl):Prop:=(0<=c.pos/\c.pos<16777216)/\(0<=c.neg/\c.neg<16777216)
theorem RC.ok {c:Cl} (h:RC c):aX c:=⟨⟨h.1.1,by have:=h.1.2;omega⟩,⟨h.2.1,by have:=h.2.2;omega⟩⟩
theorem Bp {c:Cl} (h:aX c):fE c=true↔RC c:=by
 unfold fE oC RC
 simp only [anZ,decide_eq_true_eq]
 have h1:=h.1.1;have h2:=h.2.1
 omega
def ep (a b:Int):Int:=((a.toNat|||b.toNat:Nat):Int)
theorem awS {a b:Int} (ha:U32 a) (hb:U32 b):bj .or .u32 a b=ep a b:=by
 obtain ⟨m,h,rfl⟩:=ha.nat;obtain ⟨n,hn,rfl⟩:=hb.nat
 rw [wK h hn];rfl
def d9 (a b:Cl):Cl:=⟨ep a.pos b.pos,ep a.neg b.neg⟩
def dR (a b:Cl):Bool:=decide (d9 a b=a)
def bS (c:Cl):Bool:= !decide (c.pos.toNat&&&c.neg.toNat=0)
theorem FX {a b:Int} (ha:U32 a) (hb:U32 b):U32 (ep a b):=by
 obtain ⟨m,h,rfl⟩:=ha.nat;obtain ⟨n,hn,rfl⟩:=hb.nat
 exact U32.of (Nat.or_lt_two_pow (n:=32) h hn)
theorem Aw {a b:Cl} (ha:aX a) (hb:aX b):aX (d9 a b):=⟨FX ha.1 hb.1,FX ha.2 hb.2⟩
theorem Rg (hk:Fu k) {c:Cl} (h:aX c) (I:Bool->OS S):tC k c I=I (fE c):=by
 simp only [tC,ag hk,Q9 hk h.1,Q9 hk h.2,fE,cH]
 grind
theorem G_ (hk:Fu k) {a b:Cl} (ha:aX a) (hb:aX b) (I:Cl->OS S):pb k a b I=I (d9 a b):=by
 simp only [pb,awS ha.1 hb.1,awS ha.2 hb.2];rfl
theorem ai3 (hk:Fu k) {a b:Cl} (ha:aX a) (hb:aX b) (I:Bool->OS S):yA k a b I=I (dR a b):=by
 simp only [yA,ag hk,G_ hk ha hb,lm];rfl
theorem Rf (hk:Fu k) {c:Cl} (h:aX c) (I:Bool->OS S):tB k c I=I (bS c):=by
 obtain ⟨p,n⟩:=c
 obtain ⟨m,j,rfl⟩:=h.1.nat;obtain ⟨n,hn,rfl⟩:=h.2.nat
 simp only [tB,lj j hn,bS,asG]
 congr 2
 grind
open Classical in
theorem aln (s:Int) (x:Nat) (h:x<24) (j:Nat):(e_ s (x:Int)).toNat.testBit j=((s.toNat.testBit j&&decide (j<24))||decide (j=x)):=by
 unfold e_
 rw [if_pos (by omega),asG,asG,Nat.testBit_or,Nat.testBit_and,g8,Nat.testBit_two_pow,Bool.eq_iff_iff]
 grind
def dw (c:Cl) (i b:Int):Cl×Int:=
 if fE c then
  if (alS c.pos i b).2=0 then if (alS c.neg i b).2=0 then (⟨(alS c.pos i b).1,(alS c.neg i b).1⟩,0) else (⟨0,0⟩,(alS c.neg i b).2)
  else (⟨0,0⟩,(alS c.pos i b).2)
 else (⟨0,0⟩,2)
theorem ai4 (hk:Fu k) {c:Cl} {i b:Int} (h:aX c) (j:aG i) (hb:aG b) (I:Cl×Int->OS S):yD k c i b I=I (dw c i b):=by
 simp only [yD,ag hk,Rg hk h,Q6 hk h.1 j hb,Q6 hk h.2 j hb,cH,dw,Bool.not_eq_true',beq_eq_false_iff_ne]
 grind
def gP (a b:Cl):Prop:=a.pos<b.pos\/(a.pos=b.pos/\a.neg<b.neg)
def qZ (a b:Cl):Bool:=decide (a.pos<b.pos)||(a.pos==b.pos&&decide (a.neg<b.neg))
theorem agh {a b:Cl}:qZ a b=true↔gP a b:=by unfold qZ gP;simp
theorem LP {a b c:Cl} (h:gP a b) (h':gP b c):gP a c:=by grind [gP]
theorem LO {a:Cl} (h:gP a a):False:=by grind [gP]
theorem agC (a b:Cl):gP a b\/a=b\/gP b a:=by
 grind [Cl.ext',gP]
abbrev lg (l:LC):Prop:=l.Pairwise gP
theorem BL: ∀ {a b:LC},lg a->lg b->(∀c,c∈a↔c∈b)->a=b:=by
 intro a
 induction a with
 |nil=>
  intro b _ _ h
  cases b with
  |nil=>rfl
  |cons y b=>exact absurd ((h y).2 (by simp)) (by simp)
 |cons x a A=>
  intro b ha hb h
  cases b with
  |nil=>grind
  |cons y b=>
   have j:=List.pairwise_cons.1 ha;have q:=List.pairwise_cons.1 hb
   have z:x=y:=by
    rcases arH.1 ((h x).1 (by simp)) with h1|h1
    ·exact h1
    ·rcases arH.1 ((h y).2 (by simp)) with h2|h2<;>grind [LP,LO]
   grind [LO]
def fq (x:Cl):LC->LC
 |[]=>[x]
 |y::r=>if qZ y x then y::fq x r else if y=x then y::r else x::y::r
theorem NE {x c:Cl}: ∀ {l:LC},c∈fq x l↔c=x\/c∈l:=by
 intro l
 induction l<;>grind [fq]
theorem adp {x:Cl}: ∀ {l:LC},lg l->lg (fq x l):=by
 intro l
 induction l<;>grind [fq,List.pairwise_cons,NE,agh,agC,LP]
theorem K_ {x:Cl}: ∀ {l:LC},(fq x l).length<=l.length+1:=by
 intro l
 induction l<;>grind [fq]
def ce (l:LC) (c:Cl):Bool:=l.all fun d=>decide (d=c)|| !dR c d
def avb (o l:LC):LC:=l.foldl (fun o c=>fq c o) o
def asQ (l:LC):LC:=avb [] (l.filter (ce l))
theorem agJ {c:Cl}: ∀ {l o:LC},c∈avb o l↔c∈l\/c∈o:=by
 intro l
 induction l with
 |nil=>grind [avb]
 |cons x l h=>
  intro o
  show c∈avb (fq x o) l↔_
  grind [NE]
theorem ado: ∀ {l o:LC},lg o->lg (avb o l):=by
 intro l
 induction l with
 |nil=>intro o h;exact h
 |cons x l j=>intro o h;exact j (adp h)
theorem adn: ∀ {l o:LC},(avb o l).length<=o.length+l.length:=by
 intro l
 induction l<;>grind [avb,K_]
theorem re (l:LC):lg (asQ l):=ado List.Pairwise.nil
theorem mem_mins {l:LC} {c:Cl}:c∈asQ l↔c∈l/\ce l c=true:=by
 grind [asQ,agJ]
theorem agM (l:LC):(asQ l).length<=l.length:=by
 grind [adn,asQ]
theorem NK {l l':LC} (h: ∀c,c∈l↔c∈l') (c:Cl):ce l c=ce l' c:=by
 grind [ce]
def bp (l:LC):LC×Int:=if l.all fE then if (asQ l).length>64 then ([],3) else (asQ l,0) else ([],2)
theorem yq {S:Type} {p:Prop} [Decidable p] (h:p) (f:Unit->OS S):asP (bR p) f=f ():=fN p h f
theorem aiS (hk:Fu k) {d c:Cl} (hd:aX d) (hc:aX c) (I:Bool->OS S):yC k d c I=I (!(decide (d=c)|| !dR c d)):=by
 grind [yC,lm,cH,ag,ai3,dR]
theorem aeZ (hk:Fu k) (I:Int->OS S) {c:Cl} (hc:aX c) {l:LC} (hl:aq l) (hlen:l.length<2147483648):
  ∀ (r p:LC) (m:Nat),l=p++r->r.length<m-> ∃v:Int,decide (v>=0)= !ce r c/\qO k I c l m (p.length:Int)=I v:=by
 intro r
 induction r with
 |nil=>
  intro p m h q
  obtain ⟨m,rfl,j⟩:=amr q
  exact ⟨-1,rfl,by grind [qO,yc,n3]⟩
 |cons x r z=>
  intro p m h q
  obtain ⟨m,rfl,j⟩:=amr q
  obtain ⟨B,E,F,A⟩:=apy h (by omega)
  have J:aX x:=hl x (by grind)
  obtain ⟨v,hv,L⟩:=z (p++[x]) m A j
  have M:ce (x::r) c=((decide (x=c)|| !dR c x)&&ce r c):=by rfl
  grind [qO,yc,ae,ag,aiS,decide,dR,n3]
theorem ajq (hk:Fu k) {c:Cl} (hc:aX c) {l:LC} (hl:aq l) (hlen:l.length<2147483648) (I:Bool->OS S):yB k c l I=I (!ce l c):=by
 obtain ⟨v,hv,h⟩:=aeZ hk (fun r1:Int=>I (decide (r1>=0))) hc hl hlen l [] k rfl (by omega)
 grind [yB,DT,DV,IM,ag]
theorem ae2 (hk:Fu k) (I:LC×Int->OS S) {l:LC} (hl:aq l) (hlen:l.length<2147483648):
  ∀ (r p:LC) (m:Nat) (q:LC),l=p++r->r.length<m->q.length<=p.length->
  nz k I l m (p.length:Int) q=I (if (q++r.filter (ce l)).length>64 then ([],3) else (sortCl (q++r.filter (ce l)),0)):=by
 intro r
 induction r with
 |nil=>
  grind [amr,nz,wM,aY]
 |cons x r z=>
  intro p m q h A O
  obtain ⟨m,rfl,j⟩:=amr A
  obtain ⟨B,E,F,J⟩:=apy h (by omega)
  have L:aX x:=hl x (by grind)
  have M:p.length<l.length:=by grind
  simp only [nz,wM,B,ae,E,sf,ag hk,ajq hk L hl hlen,Bool.not_not]
  rw [F]
  cases hn:ce l x with
  |true=>
   rw [ae,J5 (by grind),List.filter_cons_of_pos hn,z (p++[x]) m (q++[x]) J j (by grind)]
   simp
  |false=>
   rw [n3,List.filter_cons_of_neg (by grind)]
   grind
theorem zT (a b:Cl):eS VV ET.C a b=decide (a=b):=by
 have e:eS VV ET.C a b=((a.pos==b.pos)&&((a.neg==b.neg)&&true)):=by
  rfl
 rw [e,lm]
theorem agK (l:List (Cl×Bool)) (x y:Cl):dW VV ET.C (fz VV ET.C l x true) y=if x=y then some true else dW VV ET.C l y:=by
 induction l with
 |nil=>
  show (bif eS VV ET.C x y then some true else .none)=_
  simp_all [zT,dW]
 |cons a r j=>
  obtain ⟨z,b⟩:=a
  show dW VV ET.C (bif eS VV ET.C z x then (z,true)::r else (z,b)::fz VV ET.C r x true) y=_
  rw [zT]
  by_cases h:z=x
  ·subst h
   rw [decide_eq_true rfl,cond_true]
   show (bif eS VV ET.C z y then some true else dW VV ET.C r y)=if z=y then some true else (bif eS VV ET.C z y then some b else dW VV ET.C r y)
   grind [zT]
  ·rw [decide_eq_false h,cond_false]
   show (bif eS VV ET.C z y then some b else dW VV ET.C (fz VV ET.C r x true) y)=if x=y then some true else (bif eS VV ET.C z y then some b else dW VV ET.C r y)
   grind [zT]
theorem akd {l o:LC} (hn:o.Nodup) (h: ∀c,c∈o↔c∈l):sortCl (o.filter (ce o))=asQ l/\(o.filter (ce o)).length=(asQ l).length:=by
 have hp:(sortCl (o.filter (ce o))).Perm (o.filter (ce o)):=List.mergeSort_perm _ _
 have hs:(sortCl (o.filter (ce o))).Pairwise (fun a b=>lq a b=true):=
  List.pairwise_mergeSort (le:=lq) (fun a b c h1 h2=>by
   grind [lq]) (fun a b=>by
   grind [lq]) _
 have q:(sortCl (o.filter (ce o))).Nodup:=hp.nodup_iff.2 (hn.filter _)
 have j:lg (sortCl (o.filter (ce o))):=by
  refine (hs.and q).imp fun {a b} h=> ?_
  have h1:=h.1
  unfold lq at h1
  simp only [Bool.or_eq_true,anZ,decide_eq_true_eq,beq_iff_eq] at h1
  rcases h1 with h1|h1
  ·exact .inl h1
  ·refine .inr ⟨h1.1, ?_⟩
   grind [Cl.ext']
 have he:sortCl (o.filter (ce o))=asQ l:=BL j (re l) fun c=>by
  grind [mem_mins,NK]
 exact ⟨he,by rw [<-he,hp.length_eq]⟩
theorem af3 (hk:Fu k) (I:LC×Int->OS S) {l:LC} (hl:aq l) (hlen:l.length<2147483648):
  ∀ (r p:LC) (m:Nat) (q:List (Cl×Bool)) (o:LC),l=p++r->r.length<m->o.length<=p.length->o.Nodup->(∀c:Cl,(dW VV ET.C q c).getD false=decide (c∈o))->(∀c,c∈o↔c∈p)->
  pZ k I l m q o (p.length:Int)=I (if r.all fE then if (asQ l).length>64 then ([],3) else (asQ l,0) else ([],2)):=by
 intro r
 induction r with
 |nil=>
  intro p m q o h B ho z J j
  obtain ⟨m,rfl,A⟩:=amr B
  have hp:l=p:=by grind
  subst hp
  have E:aq o:=fun c hc=>hl c ((j c).1 hc)
  have L:4294967296<=k:=hk
  simp only [pZ,awk,akb h,n3,List.all_nil,if_true]
  have:=ae2 hk I E (by omega) o [] k [] rfl (by omega) (by simp)
  grind [akd]
 |cons x r M=>
  intro p m q o h B ho z J j
  obtain ⟨m,rfl,A⟩:=amr B
  obtain ⟨O,T,W,Y⟩:=apy h (by omega)
  have hx:aX x:=hl x (by grind)
  have ad:p.length<l.length:=by grind
  simp only [pZ,awk,O,ae,T,sf,ag hk,Rg hk hx]
  rw [J,W]
  by_cases hr:fE x=true
  ·have:(x::r).all fE=r.all fE:=by grind
   rw [hr,aq6,n3,this]
   by_cases F:x∈o
   ·grind [n3]
   ·rw [decide_eq_false F,aqD,ae,J5 (by grind)]
    refine M (p++[x]) m _ (o++[x]) Y A (by grind) (List.nodup_append.2 ⟨z,by simp,fun a ha b hb=>by grind⟩) (fun c=> ?_) fun c=> ?_
    all_goals grind [agK]
  grind [ae]
theorem kX (hk:Fu k) {l:LC} (hl:aq l) (hlen:l.length<2147483648) (I:LC×Int->OS S):gy k l I=I (bp l):=by
 simp only [gy,Hw]
 exact af3 hk I hl hlen l [] k [] [] rfl (by omega) (by simp) List.nodup_nil (fun c=>by rfl) (fun c=>Iff.rfl)
theorem aeg (hk:Fu k) (I:Bool->OS S) {a b:LC} (hlen:a.length<4294967296):
  ∀ (r s p q:LC) (m:Nat),a=p++r->b=q++s->p.length=q.length->r.length=s.length->r.length<m->qN k I a b m (p.length:Int)=I (decide (r=s)):=by
 intro r
 induction r with
 |nil=>
  grind [amr,qN,yb,n3]
 |cons x r B=>
  intro s p q m h h' E j F
  obtain ⟨m,rfl,z⟩:=amr F
  cases s with
  |nil=>cases j
  |cons y s=>
   obtain ⟨J,L,M,O⟩:=apy h (by omega)
   have A:af b (p.length:Int)=some y:=by grind [uB]
   simp only [qN,yb,J,ae,L,A,sf,lm,M]
   rw [B s (p++[x]) (q++[y]) m O (by grind) (by simp_all) (by grind) z]
   by_cases T:x=y<;>simp_all [n3,ae]
theorem aiN (hk:Fu k) {a b:LC} (hlen:a.length<4294967296) (I:Bool->OS S):zz k a b I=I (decide (a=b)):=by
 simp only [zz,IL]
 by_cases h:a.length=b.length
 ·have e:((a.length:Int)==(b.length:Int))=true:=by simp [h]
  rw [e,aq6,n3]
  exact aeg hk I hlen a b [] [] k rfl rfl rfl h (by omega)
 ·have e:((a.length:Int)==(b.length:Int))=false:=by grind
  rw [e,aqD,ae,decide_eq_false]
  grind
theorem LF (l:LC):(bp l).1.length<=64:=by
 grind [bp]
def ary (f:LC):Bool:=decide (bp f=(f,0))
theorem rH (hk:Fu k) {f:LC} (hf:aq f) (hlen:f.length<2147483648) (I:Bool->OS S):hY k f I=I (ary f):=by
 have:=LF f
 simp only [hY,ag hk,kX hk hf hlen,aiN hk (show (bp f).1.length<4294967296 by omega),cH,ary,beq_iff_eq]
 by_cases h:(bp f).2=0
 all_goals simp_all [Prod.ext_iff]
def RF (f:LC):Prop:=bp f=(f,0)/\aq f
theorem atQ {f:LC} (h:aq f):ary f=true↔RF f:=by grind [ary,RF]
theorem RF.right {f:LC} (h:RF f):ary f=true:=by unfold ary;simp [h.1]
theorem As {l o:LC} (h:bp l=(o,0)):o=asQ l/\l.all fE=true/\o.length<=64:=by
 grind [bp]
theorem RF.len {f:LC} (h:RF f):f.length<=64:=(As h.1).2.2
theorem RF.rc {f:LC} (h:RF f) {c:Cl} (hc:c∈f):RC c:=(Bp (h.2 c hc)).1 (ars.1 (As h.1).2.1 c hc)
theorem agN (l:LC):asQ (asQ l)=asQ l:=BL (re _) (re _) fun c=>by
 grind [mem_mins,ce]
theorem qX {l:LC} (hl:aq l) (h:(bp l).2=0):RF (bp l).1:=by
 have h':bp l=((bp l).1,0):=Prod.ext rfl h
 obtain ⟨h1,h2,q⟩:=As h'
 have j:aq (bp l).1:=fun c hc=>hl c ((mem_mins.1 (h1▸hc)).1)
 refine ⟨?_,j⟩
 grind [bp,mem_mins,agN]
theorem agf {l:LC} (h:(bp l).2≠0):(bp l).1=[]:=by
 grind [bp]
theorem rA:RF []:=⟨rfl,fun c hc=>by cases hc⟩
theorem gS {c:Cl} (h:RC c):RF [c]:=by
 have j:aq [c]:=fun d hd=>by simp at hd;subst hd;exact h.ok
 refine ⟨?_,j⟩
 have q:asQ [c]=[c]:=BL (re _) (by simp) fun d=>by
  grind [mem_mins,ce]
 unfold bp
 rw [q,if_pos (by simp [(Bp h.ok).2 h]),if_neg (by simp)]
theorem oA:RC ⟨0,0⟩:=⟨⟨by decide,by decide⟩,by decide,by decide⟩
theorem ami {f g:LC} (hf:aq f) (j:aq g):aq (f++g):=fun c hc=>by
 rcases atc.1 hc with h|h
 ·exact hf c h
 ·exact j c h
theorem afJ (hk:Fu k) (I:Int->OS S) {l:List (LC)} (hl: ∀f∈l,aq f/\f.length<2147483648) (hlen:l.length<4294967296):
  ∀ (r p:List (LC)) (m:Nat),l=p++r->r.length<m->qi k I l m (p.length:Int)=I (if r.all ary then 0 else 2):=by
 intro r
 induction r with
 |nil=>
  grind [amr,qi,w9,n3]
 |cons x r z=>
  intro p m h j
  obtain ⟨m,rfl,q⟩:=amr j
  obtain ⟨A,B,E,F⟩:=apy h (by omega)
  have J:=hl x (by grind)
  grind [qi,w9,ae,ag,rH,n3]
theorem Hc (hk:Fu k) {l:List (LC)} (hl: ∀f∈l,aq f/\f.length<2147483648) (hlen:l.length<4294967296) (I:Int->OS S):pi k l I=I (if l.all ary then 0 else 2):=by
 simp only [pi,HT]
 exact afJ hk I hl hlen l [] k rfl (by omega)
def alO (f g:LC):LC×Int:=bp (f++g)
def meets (f g:LC):LC:=f.flatMap fun a=>g.map (d9 a)
def alV (f g:LC):LC×Int:=bp (meets f g)
theorem ND {f g:LC} (hf:aq f) (h:aq g):aq (meets f g):=fun c hc=>by
 obtain ⟨a,ha,hc⟩:=List.mem_flatMap.1 hc
 obtain ⟨b,hb,rfl⟩:=arR.1 hc
 exact Aw (hf a ha) (h b hb)
theorem kS {f g:LC} (hf:aq f) (j:aq g) (h:(alV f g).2=0):RF (alV f g).1:=qX (ND hf j) h
theorem Lc {f g:LC} (hf:aq f) (j:aq g) (h:(alO f g).2=0):RF (alO f g).1:=qX (ami hf j) h
theorem Bz (hk:Fu k) {f g:LC} (hf:aq f) (h:aq g) (h1:f.length<1073741824) (h2:g.length<1073741824) (I:LC×Int->OS S):na k f g I=I (alO f g):=by
 simp only [na,ag hk,as2]
 rw [J5 (by grind),J5 (by omega),kX hk (ami hf h) (by grind)]
 rfl
theorem afa (hk:Fu k) (I:LC×Int->OS S) (j:Int->LC->OS S) {x:Cl} (A:aX x) {g f:LC} {v:Int} (B:aq g) (hlen:g.length<65536):
  ∀ (r p:LC) (m:Nat) (o:LC),g=p++r->r.length<m->o.length+r.length<1099511627776->nA k I j x g f v m (p.length:Int) o=j (su .i64 (v+1)) (o++r.map (d9 x)):=by
 intro r
 induction r with
 |nil=>
  intro p m o h q ho
  obtain ⟨m,rfl,z⟩:=amr q
  grind [nA,w7,n3]
 |cons y r M=>
  intro p m o h q ho
  obtain ⟨m,rfl,z⟩:=amr q
  obtain ⟨E,F,J,O⟩:=apy h (by omega)
  have L:aX y:=B y (by grind)
  simp only [aq5] at ho
  simp only [nA,w7,E,ae,F,sf,ag hk,G_ hk A L,J]
  grind [J5]
theorem ae_ (hk:Fu k) (I:LC×Int->OS S) {g f:LC} (hf:aq f) (z:aq g) (B:f.length<32768) (E:g.length<32768):
  ∀ (r p:LC) (m:Nat) (o:LC),f=p++r->r.length<m->aq o->o.length+r.length*g.length<1073741825->lZ k I g f m (p.length:Int) o=I (bp (o++meets r g)):=by
 intro r
 induction r with
 |nil=>
  grind [amr,lZ,an_,n3,ag,kX,meets]
 |cons x r F=>
  intro p m o h J j ho
  obtain ⟨m,rfl,q⟩:=amr J
  obtain ⟨L,M,O,T⟩:=apy h (by omega)
  have A:aX x:=hf x (by grind)
  have hmul:(x::r).length*g.length=r.length*g.length+g.length:=by grind
  rw [hmul] at ho
  have W:4294967296<=k:=hk
  simp only [lZ,an_,L,ae,M,sf]
  have:=afa hk I (lZ k I g f m) (f:=f) (v:=(p.length:Int)) A z (by omega) g [] k o rfl (by omega) (by omega)
  simp only [List.length_nil] at this
  rw [show (0:Int)=((0:Nat):Int) from rfl,this,O,F (p++[x]) m _ T q (ami j fun c hc=>by
   obtain ⟨b,hb,rfl⟩:=arR.1 hc
   exact Aw A (z b hb)) (by grind)]
  simp [meets]
theorem vY (hk:Fu k) {f g:LC} (hf:aq f) (h:aq g) (h1:f.length<32768) (h2:g.length<32768) (I:LC×Int->OS S):jW k f g I=I (alV f g):=by
 simp only [jW,HR]
 have hb:f.length*g.length<1073741824:=Nat.lt_of_le_of_lt (Nat.mul_le_mul (Nat.le_of_lt_succ h1) (Nat.le_of_lt_succ h2)) (by decide)
 have:=ae_ hk I hf h h1 h2 f [] k [] rfl (by omega) (fun c hc=>by cases hc) (by grind)
 grind [alV]
theorem RF.lt {f:LC} (h:RF f):f.length<2147483648:=by have:=h.len;omega
end Go.Proofs.YtgmmefmmnakbpaaGreatDoor
