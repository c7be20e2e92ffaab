/- Part 2 of a proof: the sources, with their names and remarks, lie in wip/. -/
import Derived.Test.YtehekgbehghgdaaGreatDoorX1
import Derived.Recover
import Derived.Orders
import Derived.Test.YtehekgbehghgdaaGreatDoorProg
import Derived.KernelRfl
namespace Go.Proofs.YtehekgbehghgdaaGreatDoor.PI
open Go
section
variable {U:Uni} {R:Type} (V:Env U) (S:Side U) (C:Oracle U R) (ann:Nat→Option Ann) (fuel:Nat)
def Mq (o:Oper):Option Tmp:=
 match o.dst,o.op,o.guard with
 |some d,.call c,.none=>match c.callee with
  | .builtin .recover=>some d
  |_=> .none
 |_,_,_=> .none
def MG (v:PV U):Code→St U→(Ex U→St U→Option R)→Option R
 | .seq (.region _ ops draw) b,σ,κ=>match ops.toList with
  |o::more=>match Mq o with
   |some d=>bif !draw&&(Nat.blt d S.nt&&more.all (a6 S.nt)) then oH V S C ops.toList more [] (σ.setR d v) fun
     | .normal,σ',_=>run V S C ann fuel b σ' κ
     |_,_,_=> .none
    else .none
   | .none=> .none
  |[]=> .none
 |_,_,_=> .none
def Dc (keep:Bool) (hand:List Bool) (fn:Func) (v:PV U) (args:List (PV U)) (boxes:List (Box U)) (κ:Out U→Option R):Option R:=
 MG V S C ann fuel v (fc fn) (fF args boxes) (kF V C keep hand fn boxes.length κ)
def Aw:List Oper→Option (Oper×Tmp)
 |[o,q]=>match o.dst,o.guard,q.dst,q.op,q.guard with
  |some m,.none,.none,.defer c,.none=>match c.callee with
   | .value (.tmp n)=>bif Nat.beq m n&&c.args.isEmpty then some (o,n) else .none
   |_=> .none
  |_,_,_,_,_=> .none
 |_=> .none
def PV.pinned:PV U→Bool
 | .ptr id _=>Nat.ble 1000000 id
 |_=>false
def mi:Code→St U→(Ex U→St U→Option R)→(FuncId→List (PV U)→Ex U→St U→Option R)→Option R
 | .seq a b,σ,κ0,κ1=>match a with
  | .region id ops draw=>match Aw ops.toList with
   |some (o,n)=>bif !draw&&a6 S.nt o then (bj V S o).cps C σ [] fun
     | .done,σ',_=>match σ'.r n with
      | .func h [] caps=>bif caps.all PV.pinned then run V {S with pin:=fun _=>false} C ann fuel b σ' (κ1 h caps) else .none
      |_=> .none
     |_,_,_=> .none
    else .none
   | .none=>run V S C ann fuel (.region id ops draw) σ fun
    | .normal,σ'=>mi b σ' κ0 κ1
    |e,σ'=>κ0 e σ'
  |a=>run V S C ann fuel a σ fun
   | .normal,σ'=>mi b σ' κ0 κ1
   |e,σ'=>κ0 e σ'
 |_,_,_,_=> .none
def kD (Cd:PV U→Oracle U R) (keep:Bool) (hand:List Bool) (fn:Func) (nb:Nat) (κ:Out U→Option R) (h:FuncId) (caps:List (PV U)):Ex U→St U→Option R
 | .normal,σ=>(fW (PV.idsL caps) fun _=>gr [] .none (.func h [] caps) []).cps (Cd .nilIface) σ [] fun
  | .done,σ',_=>(g7 V keep hand fn.results.toList nb).cps C σ' [] (fin κ)
  |_,_,_=> .none
 | .ret,σ=>(fW (PV.idsL caps) fun _=>gr [] .none (.func h [] caps) []).cps (Cd .nilIface) σ [] fun
  | .done,σ',_=>(g7 V keep hand fn.results.toList nb).cps C σ' [] (fin κ)
  |_,_,_=> .none
 | .panic v,σ=>match v with
  | .iface t (.int k n)=>(fW (PV.idsL caps) fun _=>gr [] .none (.func h [] caps) []).cps (Cd (.iface t (.int k n))) σ [] fun
   | .done,σ',_=>(g7 V keep hand fn.results.toList nb).cps C σ' [] (fin κ)
   |_,_,_=> .none
  |_=> .none
 | .exit _,_=> .none
def HH:Code→List Bool→List (St U→Option R)→(Nat→Option Ann)→(Ex U→St U→Option R)→(FuncId→List (PV U)→Ex U→St U→Option R)→Ex U→St U→Option R
 | .seq a b,false::p,rs,an,κ0,κ1=>jS V S C ann fuel a p rs an fun
  | .normal,σ'=>mi V S C ann fuel b σ' κ0 κ1
  |e,σ'=>κ0 e σ'
 | .seq _ b,true::p,rs,an,κ0,κ1=>HH b p rs an κ0 κ1
 |_,_,_,_,κ0,_=>κ0
def Db (Cd:PV U→Oracle U R) (keep:Bool) (hand:List Bool) (fn:Func) (args:List (PV U)) (boxes:List (Box U)) (κ:Out U→Option R):Option R:=
 mi V S C ann fuel (fc fn) (fF args boxes) (kF V C keep hand fn boxes.length κ) (kD V C Cd keep hand fn boxes.length κ)
end
end Go.Proofs.YtehekgbehghgdaaGreatDoor.PI
namespace Go.Proofs.YtehekgbehghgdaaGreatDoor.PI
open Go
set_option linter.unusedVariables false
set_option linter.unusedSimpArgs false
section
variable {U:Uni} {V:Env U} {P:Program} {X:Link V P}
inductive RcvOK:PV U→FrameMode→FrameMode→Prop
 |nil:RcvOK .nilIface .returning .returning
 |err (t:TypeId) (k:IntKind) (n:Int):RcvOK (.iface t (.int k n)) (.panicking [{v:= .iface t (.int k n),recovered:=false}]) (.panicking [{v:= .iface t (.int k n),recovered:=true}])
def ic (P:Program) (u u':FrameMode):FuncId→Array Value→World→(Ending→World→Prop)→Prop:=fun f vs w R=>CallsD P f vs u w fun e u2 w'=>u2=u'∧R e w'
theorem agl {ops:Array Oper} {cs:List Frame} {Q:Exit→Act→List Frame→World→Prop} (hQ: ¬LetsOut (fun e a' w'=>Q e a' cs w')): ∀ (l:List Nat) (a:Act) (w:World),wpOps P ops (fun e a' w'=>Q e a' cs w') l a w→wpOpsS P ops Q l a cs w:=by
 intro l
 induction l with
 |nil=>intro a w h;exact h
 |cons i l ih=>
  intro a w h
  simp only [wpOps,wpOpsS] at h ⊢
  cases ho:ops[i]? with
  |none=>rw [ho] at h;exact ih _ _ h
  |some o=>
   rw [ho] at h
   simp only at h ⊢
   split
   ·rename_i hw
    rw [if_pos hw] at h
    have h:=h.resolve_right fun h=>hQ h.2
    have h:=Oper.wp_mono ih h
    unfold Oper.wp at h
    split
    ·rename_i w' hrun
     rw [hrun] at h
     exact h.elim
    ·exact h
   ·rename_i hw
    rw [if_neg hw] at h
    exact ih _ _ h
theorem adp (hm:P.follows .mixedOrders=true) (hI:jp X) {S:Side U} (hS:S.rcv=none) (hpin:S.pin=fun _=>false) {R:Type} {C:Oracle U R} (hC:C.Tells (bL X)) {f:FuncId} {fn:Func} (hf:P.funcs[f]? =some fn)
  (hname:(fn.name== "runtime.NumGoroutine")=false) (hbody:fn.body.isNone=false) (hnt:fn.ntmps=S.nt) (hlow:S.nt≤1000000) {v:PV U} {u u':FrameMode} (hv:RcvOK v u u') {args:List (PV U)} {boxes:List (Box U)} (hargs:args.length≤S.nt)
  {ann:Nat→Option Ann} {fuel:Nat} {keep:Bool} {hand:List Bool} {κ:Out U→Option R} {x:R} (h:Dc V S C ann fuel keep hand fn v args boxes κ=some x): ∃out,κ out=some x∧il X (ic P u u') f args boxes out:=by
 obtain ⟨code,hcode⟩: ∃code,fn.body=some code:=by
  cases hb:fn.body with
  |none=>rw [hb] at hbody;cases hbody
  |some code=>exact ⟨code,rfl⟩
 unfold Dc fc at h
 rw [hcode] at h
 simp only at h
 unfold MG at h
 split at h
 case h_2=>cases h
 rename_i id ops draw b
 split at h
 case h_2=>cases h
 rename_i o more hops
 split at h
 case h_2=>cases h
 rename_i d hrec
 cases hc:(!draw&&(Nat.blt d S.nt&&more.all (a6 S.nt))) with
 |false=>rw [hc] at h;cases h
 |true=>
 rw [hc] at h
 simp only [cond_true] at h
 simp only [Bool.and_eq_true,Bool.not_eq_true'] at hc
 obtain ⟨hdraw,hd,hall⟩:=hc
 subst hdraw
 have hd:d<S.nt:=by simpa using hd
 unfold Mq at hrec
 obtain ⟨dst,op,ty,pos,after,gd⟩:=o
 simp only at hrec
 split at hrec
 case h_2=>cases hrec
 rename_i d0 cl
 split at hrec
 case h_2=>cases hrec
 rename_i hcl
 injection hrec with hrec
 subst hrec
 obtain ⟨e1,fps,τ0,τ1,hops1,ht1,hk1⟩:=MF (bL X) V S hC ops.toList more h (St.eqv.refl _)
 cases e1 with
 |exit id=>cases hk1
 |ret=>cases hk1
 |panic v=>cases hk1
 |normal=>
 simp only at hk1
 obtain ⟨e,τ,hbig,hk⟩:=xP (bL X) V S ann hC fuel b hk1
 have hsz:ops.size=more.length+1:=by have:=congrArg List.length hops;simpa using this
 have key: ∀ {out:Out U},(∀ (w:World) (vs:Array Value) (N0:az) (ν:Nat→Nat) (δ:Nat→Option Nat) (hg:Given X w vs N0 ν δ args boxes),
   Lands X (e_ w N0 boxes.length args.length ν δ S.nt hlow hg.bnd X.gblk hg.glob) [] e τ (bodyPost P fn (Ret X w N0 ν δ boxes.length args.length out)))→il X (ic P u u') f args boxes out:=by
  intro out hl
  refine ⟨⟨fn,hf,hname,hbody⟩,fun w vs N0 ν δ hg=> ?_⟩
  suffices hgoal:ic P u u' f vs w (Ret X w N0 ν δ boxes.length args.length out) from CallsD.mono hgoal fun e u2 w2 h=>⟨h.1,Ret.full h.2⟩
  refine callsD_of_wpS hf hcode fun c₀ cs hu=> ?_
  have hs:=yc hg hargs hlow
  rw [hnt]
  have hl:=hl w vs N0 ν δ hg
  generalize hcx:e_ w N0 boxes.length args.length ν δ S.nt hlow hg.bnd X.gblk hg.glob=c at hs hl
  have hcnt:c.nt=S.nt:=by rw [←hcx];rfl
  have hOS:kP X (bL X) S c:=lX hI hS fun d hd=>by rw [hpin] at hd;cases hd
  obtain ⟨val,cs2,hrv,hrep⟩: ∃val cs2,(match recoverD (c₀::cs) with|some (v,cs')=>v=val∧cs'=cs2|none=>val= .nilIface∧cs2=c₀::cs)∧(∃c1:Frame,cs2={c₀ with mode:=u'}::cs)∧ ∀ (w:World) (N:az) (g:Gh U),Rep X w N g val v:=by
   cases hv with
   |nil=>
    refine ⟨.nilIface,c₀::cs, ?_,⟨c₀, ?_⟩,fun _ _ _=> .nilIface⟩
    ·simp [recoverD,hu]
    ·rw [←hu]
   |err t k n=>
    refine ⟨.iface t (.int k n),_, ?_,⟨c₀,rfl⟩,fun _ _ _=> .iface _ _ _ (.int _ _)⟩
    simp [recoverD,hu]
  obtain ⟨⟨_,hcs2⟩,hrep⟩:=hrep
  refine wpS_seq (wpS_region ?_)
  rw [hsz,List.range_eq_range',List.range'_succ]
  have h0:ops[0]? =some ⟨some d0,.call cl,ty,pos,after,none⟩:=by rw [←Array.getElem?_toList,hops];rfl
  simp only [wpOpsS,h0]
  have hrun:(execOp (Act.eval ⟨vs++Array.replicate (S.nt-vs.size) undef,[]⟩) ⟨some d0,.call cl,ty,pos,after,none⟩).run P w= .ok .recover w:=by
   rw [MJ hcl]
   simp [builtin]
  rw [if_pos (by simp [Region.wanted]),hrun]
  simp only
  have hnext:wpOpsS P ops (Exit.thenS (b.wpS P (bodyPostS P fn c₀ cs fun e u2 w'=>u2=u'∧Ret X w N0 ν δ boxes.length args.length out e w')) (bodyPostS P fn c₀ cs fun e u2 w'=>u2=u'∧Ret X w N0 ν δ boxes.length args.length out e w')) (List.range' (0+1) more.length)
    (Act.put ⟨vs++Array.replicate (S.nt-vs.size) undef,[]⟩ (some d0) val) cs2 w:=by
   have hs1:=hs.put (d:=d0) (by rw [hcnt];exact hd) (hrep w _ _)
   have hLO: ∀ {next:Act→List Frame→World→Prop},¬LetsOut (fun e a' w'=>Exit.thenS next (bodyPostS P fn c₀ cs fun e u2 w'=>u2=u'∧Ret X w N0 ν δ boxes.length args.length out e w') e a' cs2 w'):=by
    rintro next ⟨a',w',u2,_,hq⟩
    exact hq
   refine agl hLO _ _ _ ?_
   refine P3 hOS more 1 _ w _ _ _ fps (by rw [hops];rfl) (by rw [hcnt];exact hall) hs1 hops1 ?_
   intro a2 w2 g2 D2 hd2 hs2
   simp only [Exit.thenS]
   refine wpS_of_wp (mu hm hOS hcnt hbig a2 w2 g2 D2 _ (hs2.eqv ht1) ?_)
   intro a3 w3 g3 D3 hd3 hs3
   have hd0:a3.defers=[]:=hd3.trans hd2
   have hb:=hl a3 w3 g3 D3 hd0 hs3
   rw [hcs2]
   cases e with
   |normal=>obtain ⟨q1,v1,q2,q3⟩:=hb;exact ⟨q1,u',rfl,v1,q2,rfl,q3⟩
   |ret=>obtain ⟨q1,v1,q2,q3⟩:=hb;exact ⟨q1,u',rfl,v1,q2,rfl,q3⟩
   |exit id=>exact hb.elim
   |panic pv=>intro val' hval';obtain ⟨q1,q3⟩:=hb val' hval';exact ⟨q1,u',rfl,rfl,q3⟩
  cases hrd:recoverD (c₀::cs) with
  |none=>rw [hrd] at hrv;obtain ⟨rfl,rfl⟩:=hrv;exact hnext
  |some p=>obtain ⟨v1,cs1⟩:=p;rw [hrd] at hrv;obtain ⟨rfl,rfl⟩:=hrv;exact hnext
 cases e with
 |exit id=>cases hk
 |normal=>
  obtain ⟨r,τ0,τ1,gp,hr,ht,hfin⟩:=fe hC _ hk (St.eqv.refl τ)
  cases r with
  |out o=>
   refine ⟨o,hfin,key fun w vs N0 ν δ hg a' w' g' D' hd hs=> ?_⟩
   obtain ⟨v,h1,h2⟩:=oD jl hg.dom hs hr
   exact ⟨hd,v,h1,h2⟩
  |_=>cases hfin
 |ret=>
  obtain ⟨r,τ0,τ1,gp,hr,ht,hfin⟩:=fe hC _ hk (St.eqv.refl τ)
  cases r with
  |out o=>
   refine ⟨o,hfin,key fun w vs N0 ν δ hg a' w' g' D' hd hs=> ?_⟩
   obtain ⟨v,h1,h2⟩:=oD jl hg.dom hs hr
   exact ⟨hd,v,h1,h2⟩
  |_=>cases hfin
 |panic v=>
  obtain ⟨r,τ0,τ1,gp,hr,ht,hfin⟩:=fe hC _ hk (St.eqv.refl τ)
  cases r with
  |out o=>
   refine ⟨o,hfin,key fun w vs N0 ν δ hg a' w' g' D' hd hs val hval=> ?_⟩
   exact ⟨hd,Cn jl hg.dom hs hval hr⟩
  |_=>cases hfin
end
end Go.Proofs.YtehekgbehghgdaaGreatDoor.PI
namespace Go.Proofs.YtehekgbehghgdaaGreatDoor.PI
open Go
set_option linter.unusedVariables false
set_option linter.unusedSimpArgs false
section
variable {U:Uni} {V:Env U} {P:Program} {X:Link V P}
def Ctx.refix (c:Ctx) (μ:Nat→Option Nat) (L:List Nat) (hnt:c.nt≤1000000) (hL: ∀id∈L,1000000≤id):Ctx:=
 {c with
  fix:=fun id=>if id∈L then μ id else c.fix id
  low:=fun id k h=>by
   split at h
   ·rename_i h1;exact ⟨hL id h1,Nat.le_trans hnt (hL id h1)⟩
   ·exact c.low id k h}
theorem Sim.refix {c:Ctx} {tm:Array Value} {w:World} {σ:St U} {g:Gh U} {D:Nat→Option Nat} (h:Sim X c tm w σ g D) {L:List Nat} {hnt:c.nt≤1000000} {hL: ∀id∈L,1000000≤id}:
  Sim X (c.refix g.μ L hnt hL) tm w σ g D where
 nt:=h.nt
 regs:=h.regs
 boxes:=h.boxes
 dom:=h.dom
 inj:=h.inj
 new:=h.new
 objs:=h.objs
 nobj:=h.nobj
 dinj:=h.dinj
 dnew:=h.dnew
 dbox:=h.dbox
 ext:=h.ext
 gl:=h.gl
 fix:=fun id k hk=>by
  simp only [Ctx.refix]
  by_cases hin:id∈L
  ·rw [if_pos hin];exact .inl hk
  ·rw [if_neg hin];exact h.fix id k hk
theorem CtxOf.refix {c:Ctx} {tm:Array Value} {w:World} {σ:St U} {g:Gh U} {D:Nat→Option Nat} (h:Sim X c tm w σ g D) {L:List Nat} {hnt:c.nt≤1000000} {hL: ∀id∈L,1000000≤id} (hLμ: ∀id∈L,∃b,g.μ id=some b)
  {w0:World} {N0:az} {n m:Nat} {ν:Nat→Nat} {δ:Nat→Option Nat} (hc:CtxOf c w0 N0 n m ν δ):CtxOf (c.refix g.μ L hnt hL) w0 N0 n m ν δ where
 cw:=hc.cw
 cN:=hc.cN
 bl:=hc.bl
 fix i hi:=by
  simp only [Ctx.refix]
  by_cases hin:cF i∈L
  ·rw [if_pos hin]
   obtain ⟨b,hb⟩:=hLμ _ hin
   rcases h.fix _ _ hb with h1|⟨h1,_⟩
   ·rw [hb,←h1];exact hc.fix i hi
   ·rw [hc.fix i hi] at h1;cases h1
  ·rw [if_neg hin];exact hc.fix i hi
 other id k hk:=by
  simp only [Ctx.refix] at hk
  by_cases hin:id∈L
  ·rw [if_pos hin] at hk
   rcases h.fix _ _ hk with h1|⟨_,h1⟩
   ·exact hc.other id k h1
   ·rw [hc.cw] at h1;exact .inr h1
  ·rw [if_neg hin] at hk;exact hc.other id k hk
 bnd:=hc.bnd
def yv (c':Ctx) (caps:List (PV U)) (us:Array Value):Prop:=us.size=caps.length∧ ∀ (j:Nat) p,caps[j]? =some p→ ∃id off b,p= .ptr id off∧c'.fix id=some b∧us.getD j undef= .pointer (some ⟨b,off,none⟩)
def yx (X:Link V P) (S:Side U) (code:Code) (σ:St U) (h:FuncId) (caps:List (PV U)) (e:Ex U) (τ:St U):Prop:=
 ∀ (c:Ctx),PinOK S c→c.nt=S.nt→ ∀ (a:Act) (w:World) (g:Gh U) (D:Nat→Option Nat) (Q:Exit→Act→World→Prop),Sim X c a.tmps w σ g D→a.defers=[]→
  (∀ (us:Array Value) (c':Ctx),(∀w0 N0 n m ν δ,CtxOf c w0 N0 n m ν δ→CtxOf c' w0 N0 n m ν δ)→c'.nt=c.nt→yv c' caps us→Lands X c' [{target:= .fn (.func h) us,args:= #[]}] e τ Q)→code.wp P Q a w
theorem VI {l:List Oper} {o:Oper} {n:Tmp} (h:Aw l=some (o,n)): ∃q cl,l=[o,q]∧o.dst=some n∧o.guard=none∧q.dst=none∧q.op= .defer cl∧q.guard=none∧cl.callee= .value (.tmp n)∧cl.args= #[]:=by
 unfold Aw at h
 split at h
 case h_2=>cases h
 rename_i o' q
 split at h
 case h_2=>cases h
 rename_i m cl h1 h2 h3 h4 h5
 split at h
 case h_2=>cases h
 rename_i n' hcl
 cases hb:(Nat.beq m n'&&cl.args.isEmpty) with
 |false=>rw [hb] at h;cases h
 |true=>
 rw [hb] at h
 injection h with h
 injection h with e1 e2
 subst e1;subst e2
 simp only [Bool.and_eq_true] at hb
 have hmn:m=n':=by simpa using hb.1
 subst hmn
 exact ⟨q,cl,rfl,h1,h2,h3,h4,h5,hcl,by simpa using hb.2⟩
theorem ado (hm:P.follows .mixedOrders=true) (hI:jp X) {S:Side U} (hS:S.rcv=none) (hlow:S.nt≤1000000) {R:Type} {C:Oracle U R} (hC:C.Tells (bL X)) {ann:Nat→Option Ann} {fuel:Nat}:
  ∀ (code:Code) {σ:St U} {κ0:Ex U→St U→Option R} {κ1:FuncId→List (PV U)→Ex U→St U→Option R} {x:R},mi V S C ann fuel code σ κ0 κ1=some x→
   (∃e τ,e≠ .normal∧κ0 e τ=some x∧ ∀c,PinOK S c→c.nt=S.nt→tf X c none code σ e τ)∨
   (∃h caps e τ,κ1 h caps e τ=some x∧yx X S code σ h caps e τ):=by
 intro code
 induction code with
 |seq a b iha ihb=>
  intro σ κ0 κ1 x h
  have step:run V S C ann fuel a σ (fun| .normal,σ'=>mi V S C ann fuel b σ' κ0 κ1|e,σ'=>κ0 e σ')=some x→
    (∃e τ,e≠ .normal∧κ0 e τ=some x∧ ∀c,PinOK S c→c.nt=S.nt→tf X c none (.seq a b) σ e τ)∨
    (∃h caps e τ,κ1 h caps e τ=some x∧yx X S (.seq a b) σ h caps e τ):=by
   intro h
   obtain ⟨e,τ,hbig,hk⟩:=xP (bL X) V S ann hC fuel a h
   have early:e≠ .normal→κ0 e τ=some x→_:=fun he hk=>(.inl ⟨e,τ,he,hk,fun c hP hnt=>mu hm (lX hI hS hP) hnt (.seqE a b _ _ _ hbig he)⟩:
    (∃e τ,e≠ .normal∧κ0 e τ=some x∧ ∀c,PinOK S c→c.nt=S.nt→tf X c none (.seq a b) σ e τ)∨(∃h caps e τ,κ1 h caps e τ=some x∧yx X S (.seq a b) σ h caps e τ))
   cases e with
   |normal=>
    rcases ihb hk with ⟨e',τ',he',hk',hB⟩|⟨hh,caps,e',τ',hk',hB⟩
    ·exact .inl ⟨e',τ',he',hk',fun c hP hnt a' w g D Q hs hl=>wp_seq (mu hm (lX hI hS hP) hnt hbig a' w g D _ hs fun a2 w2 g2 D2 hd2 hs2=>hB c hP hnt a2 w2 g2 D2 Q hs2 (by rw [hd2];exact hl))⟩
    ·exact .inr ⟨hh,caps,e',τ',hk',fun c hP hnt a' w g D Q hs hd hl=>wp_seq (mu hm (lX hI hS hP) hnt hbig a' w g D _ hs fun a2 w2 g2 D2 hd2 hs2=>hB c hP hnt a2 w2 g2 D2 Q hs2 (hd2.trans hd) hl)⟩
   |exit id=>exact early (by simp) hk
   |ret=>exact early (by simp) hk
   |panic v=>exact early (by simp) hk
  clear iha
  unfold mi at h
  split at h
  case h_2=>exact step h
  rename_i id ops draw
  split at h
  case h_2=>exact step h
  rename_i o n hdfr
  obtain ⟨q,cl,hops,ho1,ho2,hq1,hq2,hq3,hcl,hargs⟩:=VI hdfr
  cases hc:(!draw&&a6 S.nt o) with
  |false=>rw [hc] at h;cases h
  |true=>
  rw [hc] at h
  simp only [cond_true] at h
  simp only [Bool.and_eq_true,Bool.not_eq_true'] at hc
  obtain ⟨hdraw,hdo⟩:=hc
  subst hdraw
  obtain ⟨r,τ0,τ,gp,hrel,ht,hk⟩:=fe hC _ h (St.eqv.refl σ)
  cases r with
  |raise v=>cases hk
  |out o=>cases hk
  |done=>
  simp only at hk
  split at hk
  case h_2=>cases hk
  rename_i hh caps hfun
  cases hp:caps.all PV.pinned with
  |false=>rw [hp] at hk;cases hk
  |true=>
  rw [hp] at hk
  simp only [cond_true] at hk
  obtain ⟨e,τ2,hbig,hk2⟩:=xP (bL X) V {S with pin:=fun _=>false} ann hC fuel b hk
  refine .inr ⟨hh,caps,e,τ2,hk2,fun c hP hnt a w g D Q hs hdef hl=>wp_seq (wp_region ?_)⟩
  have hsz:ops.size=2:=by have:=congrArg List.length hops;simpa using this
  have h0:ops[0]? =some o:=by rw [←Array.getElem?_toList,hops];rfl
  have h1:ops[1]? =some q:=by rw [←Array.getElem?_toList,hops];rfl
  rw [hsz,show List.range 2=[0,1] from rfl]
  simp only [wpOps,h0,h1]
  rw [if_pos (by simp [Region.wanted,ho2])]
  refine .inl (lX hI hS hP o a w σ g D .done τ0 [] gp _ _ (by rw [hnt];exact hdo) hs hrel ⟨fun _ a2 w2 g2 D2 hd2 hs2=> ?_,fun v hv=>by cases hv⟩)
  rw [if_pos (by simp [Region.wanted,hq3])]
  refine .inl ?_
  have hs3:=hs2.eqv ht
  have hR:=hs3.regs n
  rw [hfun] at hR
  generalize hev:a2.tmps.getD n undef=ev at hR
  cases hR with
  |func _ _ _ vs us hvs hus hf1 hf2=>
  have hvs0:vs= #[]:=by
   have:vs.size=0:=by simpa using hvs
   exact Array.eq_empty_of_size_eq_zero this
  subst hvs0
  obtain ⟨qd,qo,qt,qp,qa,qg⟩:=q
  simp only at hq1 hq2 hq3
  subst hq1;subst hq2;subst hq3
  have hrun:(execOp a2.eval ⟨none,.defer cl,qt,qp,qa,none⟩).run P w2= .ok (.defer {target:= .fn (.func hh) us,args:= #[]}) w2:=by
   have hev':a2.eval (.tmp n)= .func (.func hh) #[] us:=hev
   simp [execOp,resolve,hcl,hargs,hev',Deferred.ofValue]
  unfold Oper.wp
  rw [hrun,Oper.upon_defer]
  have hids: ∀id∈PV.idsL caps,1000000≤id∧ ∃b,g2.μ id=some b:=by
   intro id hid
   obtain ⟨p,hpm,hpi⟩: ∃p∈caps,id∈p.ids:=by
    clear hl hk2 hbig hk hf1 hf2 hus hfun hp h step
    induction caps with
    |nil=>cases hid
    |cons p caps ih=>
     simp only [PV.idsL,List.mem_append] at hid
     rcases hid with hid|hid
     ·exact ⟨p,by simp,hid⟩
     ·obtain ⟨q,hq,hqi⟩:=ih hid;exact ⟨q,by simp [hq],hqi⟩
   have hpp:=List.all_eq_true.1 hp p hpm
   obtain ⟨j,hj⟩:=List.mem_iff_getElem?.1 hpm
   have hr:=hf2 j p hj
   cases p with
   |ptr id' off=>
    simp only [PV.ids,List.mem_singleton] at hpi
    subst hpi
    refine ⟨by simpa [PV.pinned] using hpp, ?_⟩
    generalize us.getD j undef=uv at hr
    cases hr with
    |ptr _ _ b hb=>exact ⟨b,hb⟩
   |_=>cases hpp
  have hcnt:c.nt≤1000000:=by rw [hnt];exact hlow
  refine mu (S:={S with pin:=fun _=>false}) hm (lX hI hS fun d hd=>by cases hd) (c:=c.refix g2.μ (PV.idsL caps) hcnt fun id hid=>(hids id hid).1) hnt hbig _ w2 g2 D2 Q hs3.refix ?_
  have hld:=hl us (c.refix g2.μ (PV.idsL caps) hcnt fun id hid=>(hids id hid).1) (fun w0 N0 n m ν δ hc=>CtxOf.refix hs3 (fun id hid=>(hids id hid).2) hc) rfl ⟨hus,fun j p hj=> ?_⟩
  ·have hd3:((Act.put {a2 with defers:={target:= .fn (.func hh) us,args:= #[]}::a2.defers} none undef).defers)=[{target:= .fn (.func hh) us,args:= #[]}]:=by
    have:a2.defers=[]:=hd2.trans hdef
    simp [Act.put,this]
   rw [hd3];exact hld
  ·have hpp:=List.all_eq_true.1 hp p (List.mem_of_getElem? hj)
   have hr:=hf2 j p hj
   cases p with
   |ptr id off=>
    have hin:id∈PV.idsL caps:=eA hj id (by simp [PV.ids])
    generalize us.getD j undef=uv at hr
    cases hr with
    |ptr _ _ b hb=>exact ⟨id,off,b,rfl,by simp only [Ctx.refix];rw [if_pos hin];exact hb,rfl⟩
   |_=>cases hpp
 |_=>intro σ κ0 κ1 x h;cases h
end
end Go.Proofs.YtehekgbehghgdaaGreatDoor.PI
namespace Go.Proofs.YtehekgbehghgdaaGreatDoor.PI
open Go
set_option linter.unusedVariables false
set_option linter.unusedSimpArgs false
section
variable {U:Uni} {V:Env U} {P:Program} {X:Link V P}
theorem BF {fn:Func} {w0:World} {N0:az} {n m:Nat} {ν:Nat→Nat} {δ:Nat→Option Nat} {c':Ctx} (hc:CtxOf c' w0 N0 n m ν δ) (hdom: ∀j b,δ j=some b→j<m) {v:PV U} {u u':FrameMode} (hv:RcvOK v u u')
  {hh:FuncId} {caps:List (PV U)} {us:Array Value} (hct:yv c' caps us) {τ τ1:St U} {r:MR U} {τ0:St U} {gp gp':List Loc} {K:bM U} {keep:Bool} {hand:List Bool} {out:Out U} {τ2:St U}
  (hrel:(fW (PV.idsL caps) fun _=>gr [] none (.func hh [] caps) []).Rel (il X (ic P u u')) τ [] r τ0 gp) (hr:r= .done) (ht:τ0.eqv τ1) (hret:(g7 V keep hand fn.results.toList n).Rel K τ1 [] (.out out) τ2 gp')
  {a:Act} {w:World} {g:Gh U} {D:Nat→Option Nat} (hs:Sim X c' a.tmps w τ g D):
  Leaves P fn a.tmps (Ret X w0 N0 ν δ n m out) [{target:= .fn (.func hh) us,args:= #[]}] u w:=by
 obtain ⟨bs,fp1,hrel1,hkeys,hbs⟩:=A2 _ hrel
 have hR:Rep X w (c'.N g D) g (.func (.func hh) #[] us) (.func hh [] caps):=by
  refine .func hh [] caps #[] us rfl hct.1 (by simp) fun j p hp=> ?_
  obtain ⟨id,off,b,rfl,hfix,hus⟩:=hct.2 j p hp
  rw [hus]
  refine .ptr id off b ?_
  have hin:id∈PV.idsL caps:=eA hp id (by simp [PV.ids])
  rw [←hkeys] at hin
  obtain ⟨x,hx,rfl⟩:=List.mem_map.1 hin
  obtain ⟨k,hk,_⟩:=hs.boxes x.1 x.2 (hbs x hx)
  rcases hs.fix _ _ hk with h1|⟨h1,_⟩
  ·rw [hfix] at h1;injection h1 with h1;rw [h1];exact hk
  ·rw [hfix] at h1;cases h1
 obtain ⟨f,a0s,bs',hfv,⟨fnh,hfh,hnameh,hbodyh⟩,hcall⟩:=FA (X:=X) (c:=c') (a:=a) (dst:=none) (o:=⟨none,.move (.const undef),0, "",#[],none⟩) (CP:=ic P u u') (xs:= #[])
  (next:=fun a2 w2=>Leaves P fn a2.tmps (Ret X w0 N0 ν δ n m out) [] .returning w2) (Q:=fun _ _ _=>False)
  (fun {f vs w R R'} h hm=>CallsD.mono h fun e u2 w2 ⟨h1,h2⟩=>⟨h1,hm e w2 h2⟩) hs hR rfl (by simp) rfl rfl hrel1
  ⟨fun _ a2 w2 g2 D2 _ hs2=>by
   obtain ⟨v,h1,h2⟩:=oD hc hdom (hs2.eqv ht) hret
   exact ⟨v,h1,h2⟩,fun v hv=>by rw [hr] at hv;cases hv⟩
 injection hfv with e1 e2 e3
 injection e1 with e1
 subst e1;subst e2;subst e3
 have hun:u≠ .run:=by cases hv<;>simp
 refine leaves_cons hun (f:=hh) (args:= #[]++us) (by simp only [invoke];exact MK hfh hnameh hbodyh _ w) ?_
 have hcall2:CallsD P hh (#[]++us) u w fun e u2 w'=>u2=u'∧(match e,w' with
    | .returned v,w''=>Leaves P fn (a.put none v).tmps (Ret X w0 N0 ν δ n m out) [] .returning w''
    | .panicked chain,w''=>False
    | .outgrown,_=>LetsOut (fun _ _ _=>False)):=by
  have:=hcall
  simp only [Array.append_empty] at this
  exact this.mono fun e u2 w2 ⟨h1,h2⟩=>⟨h1,by cases e<;>exact h2⟩
 refine hcall2.mono fun e u2 w2 ⟨h1,h2⟩=> ?_
 subst h1
 cases e with
 |returned rv=>
  simp only [Act.put] at h2
  have hset:settle u2= .returning:=by cases hv<;>rfl
  simp only [hset]
  exact h2
 |panicked chain=>exact h2.elim
 |outgrown=>obtain ⟨_,_,h⟩:=h2;exact h.elim
theorem adn (hm:P.follows .mixedOrders=true) (hI:jp X) {S:Side U} (hS:S.rcv=none) {R:Type} {C:Oracle U R} (hC:C.Tells (bL X)) {Cd:PV U→Oracle U R} (hCd: ∀v u u',RcvOK v u u'→(Cd v).Tells (il X (ic P u u')))
  {f:FuncId} {fn:Func} (hf:P.funcs[f]? =some fn)
  (hname:(fn.name== "runtime.NumGoroutine")=false) (hbody:fn.body.isNone=false) (hnt:fn.ntmps=S.nt) (hlow:S.nt≤1000000) {args:List (PV U)} {boxes:List (Box U)} (hargs:args.length≤S.nt) (hboxes:boxes.length≤1000000)
  {ann:Nat→Option Ann} {fuel:Nat} {keep:Bool} {hand:List Bool} {κ:Out U→Option R} {x:R} (h:Db V S C ann fuel Cd keep hand fn args boxes κ=some x): ∃out,κ out=some x∧bL X f args boxes out:=by
 obtain ⟨code,hcode⟩: ∃code,fn.body=some code:=by
  cases hb:fn.body with
  |none=>rw [hb] at hbody;cases hbody
  |some code=>exact ⟨code,rfl⟩
 unfold Db fc at h
 rw [hcode] at h
 have hpin: ∀ {w:World} {vs:Array Value} {N0:az} {ν:Nat→Nat} {δ:Nat→Option Nat} (hg:Given X w vs N0 ν δ args boxes),PinOK S (e_ w N0 boxes.length args.length ν δ S.nt hlow hg.bnd X.gblk hg.glob):=by
  intro w vs N0 ν δ hg d _
  simp only [e_]
  rw [if_neg (by omega)]
 rcases ado (X:=X) hm hI hS hlow hC code h with ⟨e,τ,he,hk,hB⟩|⟨hh,caps,e,τ,hk,hB⟩
 ·have key: ∀ {out:Out U},(∀ (w:World) (vs:Array Value) (N0:az) (ν:Nat→Nat) (δ:Nat→Option Nat) (hg:Given X w vs N0 ν δ args boxes),
    Lands X (e_ w N0 boxes.length args.length ν δ S.nt hlow hg.bnd X.gblk hg.glob) [] e τ (bodyPost P fn (Ret X w N0 ν δ boxes.length args.length out)))→bL X f args boxes out:=by
   intro out hl
   refine ⟨⟨fn,hf,hname,hbody⟩,fun w vs N0 ν δ hg=>Calls.mono (calls_of_wp (R:=Ret X w N0 ν δ boxes.length args.length out) hf hcode ?_) fun e w h=>Ret.full h⟩
   have hs:=yc hg hargs hlow
   rw [hnt]
   exact hB _ (hpin hg) rfl _ w _ _ _ hs (hl w vs N0 ν δ hg)
  cases e with
  |exit id=>cases hk
  |normal=>exact absurd rfl he
  |ret=>
   obtain ⟨r,τ0,τ1,gp,hr,ht,hfin⟩:=fe hC _ hk (St.eqv.refl τ)
   cases r with
   |out o=>
    refine ⟨o,hfin,key fun w vs N0 ν δ hg a' w' g' D' hd hs=> ?_⟩
    obtain ⟨v,h1,h2⟩:=oD jl hg.dom hs hr
    exact ⟨hd,v,h1,h2⟩
   |_=>cases hfin
  |panic v=>
   obtain ⟨r,τ0,τ1,gp,hr,ht,hfin⟩:=fe hC _ hk (St.eqv.refl τ)
   cases r with
   |out o=>
    refine ⟨o,hfin,key fun w vs N0 ν δ hg a' w' g' D' hd hs val hval=> ?_⟩
    exact ⟨hd,Cn jl hg.dom hs hval hr⟩
   |_=>cases hfin
 ·have key: ∀ {out:Out U},(∀ (w:World) (vs:Array Value) (N0:az) (ν:Nat→Nat) (δ:Nat→Option Nat) (hg:Given X w vs N0 ν δ args boxes) (us:Array Value) (c':Ctx),CtxOf c' w N0 boxes.length args.length ν δ→yv c' caps us→
    Lands X c' [{target:= .fn (.func hh) us,args:= #[]}] e τ (bodyPostD P fn (Ret X w N0 ν δ boxes.length args.length out)))→bL X f args boxes out:=by
   intro out hl
   refine ⟨⟨fn,hf,hname,hbody⟩,fun w vs N0 ν δ hg=>Calls.mono (calls_of_wp_defers (R:=Ret X w N0 ν δ boxes.length args.length out) hf hcode ?_) fun e w h=>Ret.full h⟩
   have hs:=yc hg hargs hlow
   rw [hnt]
   exact hB _ (hpin hg) rfl _ w _ _ _ hs rfl fun us c' hcx _ hct=>hl w vs N0 ν δ hg us c' (hcx _ _ _ _ _ _ jl) hct
  have fin: ∀ {v:PV U} {u u':FrameMode},RcvOK v u u'→(fW (PV.idsL caps) fun _=>gr [] none (.func hh [] caps) []).cps (Cd v) τ [] (fun| .done,σ',_=>(g7 V keep hand fn.results.toList boxes.length).cps C σ' [] (Go.Proofs.YtehekgbehghgdaaGreatDoor.PI.fin κ)|_,_,_=>none)=some x→
    ∃ (out:Out U) (r:MR U) (τ0 τ1 τ2:St U) (gp gp':List Loc),κ out=some x∧(fW (PV.idsL caps) fun _=>gr [] none (.func hh [] caps) []).Rel (il X (ic P u u')) τ [] r τ0 gp∧r= .done∧τ0.eqv τ1∧(g7 V keep hand fn.results.toList boxes.length).Rel (bL X) τ1 [] (.out out) τ2 gp':=by
   intro v u u' hv hk
   obtain ⟨r,τ0,τ1,gp,hr,ht,hk1⟩:=fe (hCd v u u' hv) _ hk (St.eqv.refl τ)
   cases r with
   |raise v=>cases hk1
   |out o=>cases hk1
   |done=>
    obtain ⟨r',τ2,τ3,gp',hr',ht',hk2⟩:=fe hC _ hk1 (St.eqv.refl τ1)
    cases r' with
    |out o=>exact ⟨o,.done,τ0,τ1,τ2,gp,gp',hk2,hr,rfl,ht,hr'⟩
    |_=>cases hk2
  cases e with
  |exit id=>cases hk
  |normal=>
   obtain ⟨out,r,τ0,τ1,τ2,gp,gp',h1,h2,h3,h4,h5⟩:=fin .nil hk
   refine ⟨out,h1,key fun w vs N0 ν δ hg us c' hcx hct a' w' g' D' hd hs=> ?_⟩
   simp only [bodyPostD,hd]
   exact BF hcx hg.dom .nil hct h2 h3 h4 h5 hs
  |ret=>
   obtain ⟨out,r,τ0,τ1,τ2,gp,gp',h1,h2,h3,h4,h5⟩:=fin .nil hk
   refine ⟨out,h1,key fun w vs N0 ν δ hg us c' hcx hct a' w' g' D' hd hs=> ?_⟩
   simp only [bodyPostD,hd]
   exact BF hcx hg.dom .nil hct h2 h3 h4 h5 hs
  |panic v=>
   simp only [kD] at hk
   split at hk
   case h_2=>cases hk
   rename_i t k n'
   obtain ⟨out,r,τ0,τ1,τ2,gp,gp',h1,h2,h3,h4,h5⟩:=fin (.err t k n') hk
   refine ⟨out,h1,key fun w vs N0 ν δ hg us c' hcx hct a' w' g' D' hd hs val hval=> ?_⟩
   simp only [bodyPostD,hd]
   cases hval with
   |iface _ u _ hu=>cases hu;exact BF hcx hg.dom (.err t k n') hct h2 h3 h4 h5 hs
end
end Go.Proofs.YtehekgbehghgdaaGreatDoor.PI
namespace Go.Proofs.YtehekgbehghgdaaGreatDoor
open Go PI
set_option linter.unusedVariables false
set_option maxRecDepth 100000
noncomputable section
noncomputable def qU:ET→TypeId
 | .C=>80
 | .T=>26
 | .B=>63
 | .I=>3
 | .F=>22
noncomputable def nd:ET→Nat
 | .C=>2
 | .T=>6
 | .B=>2
 | .I=>1
 | .F=>1
noncomputable def vU:ET→Nat
 | .C=>8
 | .T=>104
 | .B=>48
 | .I=>8
 | .F=>24
noncomputable def wc (e:ET):Value:=((Tryz.prog.info? (qU e)).bind (·.zero)).getD undef
noncomputable def AU (e:ET):Bool:=match Tryz.prog.info? (qU e) with
 |some i=>i.zero.isSome&&(Nat.beq i.size (nd e)&&Nat.beq i.bytes (vU e))&&Nat.beq (wc e).cells.size (nd e)
 | .none=>false
theorem GL (e:ET):AU e=true:=by cases e<;>kernel_rfl
theorem PH: ∀t r,tb t=some r→E4 Tryz.prog qU t r=true:=by
 intro t r h
 unfold tb at h
 split at h<;>first|(injection h with h;subst h;kernel_rfl)|cases h
theorem ZC: ∀t r e,tb t=some r→r.keys=some e→e= .C:=by
 intro t r e h hk
 unfold tb at h
 split at h<;>first|(injection h with h;subst h;cases hk;done)|(injection h with h;subst h;injection hk with hk;exact hk.symm)|cases h
theorem afS: ∀e cs y,PD e cs=some y→cs.length=nd e∧cs.all PV.isCell=true∧ ∀ (k:Nat) p,cs[k]? =some p→ ∃q,(dz e y)[k]? =some q∧p.less q:=by
 have hC: ∀ {p:PU} {l},pi p=some l→ ∃o,p= .sl (U:=UU) ET.C l o:=by
  intro p l h;unfold pi at h;split at h<;>first|(injection h with h;subst h;exact ⟨_,rfl⟩)|cases h
 have hT: ∀ {p:PU} {l},ti p=some l→ ∃o,p= .sl (U:=UU) ET.T l o:=by
  intro p l h;unfold ti at h;split at h<;>first|(injection h with h;subst h;exact ⟨_,rfl⟩)|cases h
 have hB: ∀ {p:PU} {l},zt p=some l→ ∃o,p= .sl (U:=UU) ET.B l o:=by
  intro p l h;unfold zt at h;split at h<;>first|(injection h with h;subst h;exact ⟨_,rfl⟩)|cases h
 intro e cs y h
 cases e
 ·have h:E0 cs=some y:=h
  unfold E0 at h
  split at h
  case h_2=>cases h
  injection h with h;subst h
  refine ⟨rfl,rfl,fun k p hp=> ?_⟩
  match k,hp with
  |0,hp=>exact ⟨_,rfl,.inl (Option.some.inj hp).symm⟩
  |1,hp=>exact ⟨_,rfl,.inl (Option.some.inj hp).symm⟩
  |k+2,hp=>simp at hp
 ·have h:E3 cs=some y:=h
  unfold E3 at h
  split at h
  case h_2=>cases h
  split at h
  case h_2=>cases h
  rename_i h1 h2 h3
  injection h with h;subst h
  obtain ⟨o1,rfl⟩:=hC h1;obtain ⟨o2,rfl⟩:=hT h2;obtain ⟨o3,rfl⟩:=hB h3
  refine ⟨rfl,rfl,fun k p hp=> ?_⟩
  match k,hp with
  |0,hp=>exact ⟨_,rfl,.inl (Option.some.inj hp).symm⟩
  |1,hp=>exact ⟨_,rfl,.inl (Option.some.inj hp).symm⟩
  |2,hp=>exact ⟨_,rfl,.inl (Option.some.inj hp).symm⟩
  |3,hp=>exact ⟨_,rfl,.inr ⟨_,_,_,(Option.some.inj hp).symm,rfl⟩⟩
  |4,hp=>exact ⟨_,rfl,.inr ⟨_,_,_,(Option.some.inj hp).symm,rfl⟩⟩
  |5,hp=>exact ⟨_,rfl,.inr ⟨_,_,_,(Option.some.inj hp).symm,rfl⟩⟩
  |k+6,hp=>simp at hp
 ·have h:EZ cs=some y:=h
  unfold EZ at h
  split at h
  case h_2=>cases h
  split at h
  case h_2=>cases h
  rename_i h1 h2
  injection h with h;subst h
  obtain ⟨o1,rfl⟩:=hC h1;obtain ⟨o2,rfl⟩:=hT h2
  refine ⟨rfl,rfl,fun k p hp=> ?_⟩
  match k,hp with
  |0,hp=>exact ⟨_,rfl,.inr ⟨_,_,_,(Option.some.inj hp).symm,rfl⟩⟩
  |1,hp=>exact ⟨_,rfl,.inr ⟨_,_,_,(Option.some.inj hp).symm,rfl⟩⟩
  |k+2,hp=>simp at hp
 ·have h:E2 cs=some y:=h
  unfold E2 at h
  split at h
  case h_2=>cases h
  injection h with h;subst h
  refine ⟨rfl,rfl,fun k p hp=> ?_⟩
  match k,hp with
  |0,hp=>exact ⟨_,rfl,.inl (Option.some.inj hp).symm⟩
  |k+1,hp=>simp at hp
 ·have h:E1 cs=some y:=h
  unfold E1 at h
  split at h
  case h_2=>cases h
  obtain ⟨o1,rfl⟩:=hC h
  refine ⟨rfl,rfl,fun k p hp=> ?_⟩
  match k,hp with
  |0,hp=>exact ⟨_,rfl,.inr ⟨_,_,_,(Option.some.inj hp).symm,rfl⟩⟩
  |k+1,hp=>simp at hp
theorem X6 (e:ET): ∃i,Tryz.prog.info? (qU e)=some i∧i.zero=some (wc e)∧i.size=nd e∧i.bytes=vU e:=by
 have h:=GL e
 unfold AU at h
 split at h
 ·rename_i i hi
  simp only [Bool.and_eq_true] at h
  obtain ⟨⟨h1,h2,h3⟩,h4⟩:=h
  refine ⟨i,hi, ?_,by simpa using h2,by simpa using h3⟩
  unfold wc
  rw [hi]
  obtain ⟨z,hz⟩:=Option.isSome_iff_exists.1 h1
  simp [hz]
 ·cases h
noncomputable def LL (o:Obj):Link VV Tryz.prog where
 gblk:=[(0,o)]
 etid:=qU
 esize:=nd
 ebytes:=vU
 ezero:=wc
 einfo:=X6
 zsize:=fun e=>by
  have h:=GL e
  unfold AU at h
  split at h
  ·simp only [Bool.and_eq_true] at h
   exact by simpa using h.2
  ·cases h
 epos:=fun e=>by cases e<;>decide
 broom:=fun e n h=>by
  have h':n≤1099511627776:=h
  cases e<;>simp only [vU,maxLen]<;>omega
 len:=fun e x=>by cases e<;>rfl
 small:=fun e=>by cases e<;>decide
 ecell':=fun e x=>by cases e<;>rfl
 toEl:=afS
 ty:=fun t r h=>PG (PH t r h)
 keyT:=fun t r e h hk=>by
  have he:=ZC t r e h hk
  subst he
  obtain ⟨fs,h1,h2,_,h4,h5⟩:=(PG (PH 80 _ rfl)).isInts rfl
  exact ⟨⟨fs,h1,h2,h4,h5⟩,fun x y=>⟨_,by simp only [VV,dz,PV.eqvI];rfl⟩⟩
theorem wO:Tryz.prog.follows .mixedOrders=true:=by kernel_rfl
theorem sw {A B:Out UU→Prop} (h: ∃out,A out∧B out): ∃out,B out∧A out:=by obtain ⟨o,a,b⟩:=h;exact ⟨o,b,a⟩
theorem Vb {S:Type} {b:Bool} {x y:Option S} {v:S} (h:(bif b then x else y)=some v):x=some v∨y=some v:=by
 cases b
 ·exact .inr h
 ·exact .inl h
end
end Go.Proofs.YtehekgbehghgdaaGreatDoor
namespace Go.Proofs.YtehekgbehghgdaaGreatDoor
open Go PI
set_option linter.unusedVariables false
def U32 (s:Int):Prop:=0≤s∧s<4294967296
theorem U32.nat {s:Int} (h:U32 s): ∃n:Nat,n<4294967296∧s=n:=⟨s.toNat,by have:=h.1;have:=h.2;omega,by have:=h.1;omega⟩
theorem mz {n:Nat} (h:n<4294967296):(BitVec.ofInt 32 (n:Int)).toNat=n:=by
 grind
theorem jo (n:Nat) (h:n<4294967296):IntKind.wrap .u32 (n:Int)=n:=by
 grind [IntKind.wrap,IntKind.bits,IntKind.signed]
theorem gn (n:Nat) (h:n<18446744073709551616):IntKind.wrap .u64 (n:Int)=n:=by
 grind [IntKind.wrap,IntKind.bits,IntKind.signed]
theorem c5 {n:Int} (h1: -9223372036854775808≤n) (h2:n<9223372036854775808):IntKind.wrap .i64 n=n:=by
 grind [IntKind.wrap,IntKind.bits,IntKind.signed]
theorem ph {a b n:Nat} (h:a<2^n):a&&&b<2^n:=Nat.lt_of_le_of_lt Nat.and_le_left h
theorem js {a b:Nat} (ha:a<4294967296) (hb:b<4294967296):aV .and .u32 (a:Int) (b:Int)=((a&&&b:Nat):Int):=by
 have h1:=mz ha;have h2:=mz hb
 simp only [aV]
 show IntKind.wrap .u32 (((BitVec.ofInt 32 (a:Int))&&&(BitVec.ofInt 32 (b:Int))).toNat:Int)=_
 rw [BitVec.toNat_and,h1,h2]
 exact jo _ (ph (n:=32) ha)
theorem tj {a b:Nat} (ha:a<4294967296) (hb:b<4294967296):aV .or .u32 (a:Int) (b:Int)=((a|||b:Nat):Int):=by
 have h1:=mz ha;have h2:=mz hb
 simp only [aV]
 show IntKind.wrap .u32 (((BitVec.ofInt 32 (a:Int))|||(BitVec.ofInt 32 (b:Int))).toNat:Int)=_
 rw [BitVec.toNat_or,h1,h2]
 exact jo _ (Nat.or_lt_two_pow (n:=32) ha hb)
def dc (a b:Nat):Nat:=a^^^(a&&&b)
theorem kf (a b i:Nat):(dc a b).testBit i=(a.testBit i&& !b.testBit i):=by
 grind [dc]
theorem r_ {a b n:Nat} (h:a<2^n):dc a b<2^n:=Nat.xor_lt_two_pow h (ph h)
theorem zu {a b:Nat} (ha:a<4294967296) (hb:b<4294967296):aV .andNot .u32 (a:Int) (b:Int)=((dc a b:Nat):Int):=by
 have h1:=mz ha;have h2:=mz hb
 simp only [aV]
 show IntKind.wrap .u32 (((BitVec.ofInt 32 (a:Int))&&& ~~~(BitVec.ofInt 32 (b:Int))).toNat:Int)=_
 have e:((BitVec.ofInt 32 (a:Int))&&& ~~~(BitVec.ofInt 32 (b:Int))).toNat=dc a b:=by
  apply Nat.eq_of_testBit_eq
  intro i
  rw [kf,BitVec.toNat_and,Nat.testBit_and,h1]
  by_cases hi:i<32
  ·grind
  ·have:a.testBit i=false:=Nat.testBit_lt_two_pow (Nat.lt_of_lt_of_le ha (by exact Nat.pow_le_pow_right (n:=2) (by decide) (show 32≤i by omega)))
   grind
 rw [e]
 exact jo _ (r_ (n:=32) ha)
theorem aO {α:Type} (p:Prop) [Decidable p] (x y:α):ab (decide p) x y=if p then x else y:=by
 grind [ai,ad]
theorem b9 {α:Type} (c:Bool) (x y:α):ab c x y=if c=true then x else y:=by
 grind [ad,ai]
abbrev Fu (k:Nat):Prop:=4294967296≤k
theorem ak {R S:Type} {k:Nat} (h:Fu k) (f:(R→Option S)→Option S) (g:R→Option S):aa k f g=f g:=Vk (by omega) f g
theorem aL {S:Type} {n m:Nat} (h:n+m≤1099511627776) (f:Unit→Option S):Option.bind (aq 1099511627776 n m) f=f ():=by
 grind [aq]
theorem ay {α:Type} {l p r:List α} {x:α} (h:l=p++x::r) (hl:l.length<4611686018427387904):
  decide ((p.length:Int)<(l.length:Int))=true∧ae l (p.length:Int)=some x∧IntKind.wrap .i64 ((p.length:Int)+1)=((p++[x]).length:Int)∧l=(p++[x])++r:=by
 subst h
 rw [List.length_append,List.length_cons] at hl
 refine ⟨decide_eq_true (by grind), ?_, ?_,by simp⟩
 all_goals grind [ae,IntKind.wrap,IntKind.bits]
theorem cv {α:Type} {l p:List α} (h:l=p++[]):decide ((p.length:Int)<(l.length:Int))=false:=by
 grind
theorem al {n m:Nat} (h:n<m): ∃q,m=q+1∧n≤q:=⟨m-1,by omega,by omega⟩
theorem gq {S:Type} (p:Prop) [Decidable p] (h:p) (f:Unit→Option S):Option.bind (bw p) f=f ():=by simp [bw,h]
theorem qY {α:Type} (l:List α) (i:Nat):ae l (i:Int)=l[i]? :=by rfl
end Go.Proofs.YtehekgbehghgdaaGreatDoor
namespace Go.Proofs.YtehekgbehghgdaaGreatDoor
open Go PI
set_option linter.unusedVariables false
set_option maxRecDepth 100000
noncomputable section
abbrev fI (S:Type):=Tm→Int→(Int→Option S)→Option S
def uf {S:Type} (hd:fI S) (k:Nat) (ret:Int→Option S) (t:Tm) (most i7:Int) (rec1:Int→Int→Option S) (rec2:Int→Int→Option S) (v5'' v8:Int):Option S:=
 Option.bind (ae t.sys i7) fun x5=>
 ab (decide ((v8:Int)<(x5.kids.length:Int))) (
 ab (decide ((v5'':Int)≤most)) (
  Option.bind (ae t.sys i7) fun x6=>
  Option.bind (ae x6.kids v8) fun x7=>
  hd (ac x7) (IntKind.wrap .i64 (most-v5'')) fun r8=>
   rec2 (IntKind.wrap .i64 (v5''+r8)) (IntKind.wrap .i64 (v8+1))) (
   rec1 v5'' (IntKind.wrap .i64 (i7+1)))) (
  rec1 v5'' (IntKind.wrap .i64 (i7+1)))
noncomputable def iY {S:Type} (hd:fI S) (k:Nat) (ret:Int→Option S) (rec1:Int→Int→Option S) (t:Tm) (most i7:Int):Nat→Int→Int→Option S
 |0=>fun _ _=> .none
 |m+1=>fun v5'' v8=>uf hd k ret t most i7 rec1 (iY hd k ret rec1 t most i7 m) v5'' v8
def pH {S:Type} (hd:fI S) (k:Nat) (ret:Int→Option S) (t:Tm) (most:Int) (J2:Int→Int→Int→Option S) (rec1:Int→Int→Option S) (v5' i7:Int):Option S:=
 ab (decide ((i7:Int)<(t.sys.length:Int))) (
 ab (decide ((v5':Int)≤most)) (
  Option.bind (ae t.sys i7) fun x3=>
  ab (decide (((x3.face.length:Int):Int)>most)) (
  ret (IntKind.wrap .i64 (most+1))) (
  Option.bind (ae t.sys i7) fun x4=>
    J2 i7 (IntKind.wrap .i64 ((IntKind.wrap .i64 (v5'+1))+(x4.face.length:Int))) 0)) (
  ret v5')) (
 ret v5')
noncomputable def gQ {S:Type} (hd:fI S) (k:Nat) (ret:Int→Option S) (t:Tm) (most:Int):Nat→Int→Int→Option S
 |0=>fun _ _=> .none
 |m+1=>fun v5' i7=>pH hd k ret t most (fun i7 v5'' v8=>iY hd k ret (gQ hd k ret t most m) t most i7 k v5'' v8) (gQ hd k ret t most m) v5' i7
def pG {S:Type} (hd:fI S) (k:Nat) (ret:Int→Option S) (t:Tm) (most:Int) (J1:Int→Int→Option S) (rec0:Int→Int→Option S) (v5 i6:Int):Option S:=
 ab (decide ((i6:Int)<(t.kids.length:Int))) (
 ab (decide ((v5:Int)≤most)) (
  Option.bind (ae t.kids i6) fun x1=>
  hd (ac x1) (IntKind.wrap .i64 (most-v5)) fun r2=>
   rec0 (IntKind.wrap .i64 (v5+r2)) (IntKind.wrap .i64 (i6+1))) (
   J1 v5 0)) (
  J1 v5 0)
noncomputable def lH {S:Type} (hd:fI S) (k:Nat) (ret:Int→Option S) (t:Tm) (most:Int):Nat→Int→Int→Option S
 |0=>fun _ _=> .none
 |m+1=>fun v5 i6=>pG hd k ret t most (fun v5' i7=>gQ hd k ret t most k v5' i7) (lH hd k ret t most m) v5 i6
def Ev {S:Type} (hd:fI S) (k:Nat) (ret:Int→Option S) (J0:Int→Int→Option S) (t:Tm) (most:Int):Option S:=
 ab (decide (((t.r.length:Int):Int)>most)) (
 ret (IntKind.wrap .i64 (most+1))) (
 ab (decide (((t.name.size:Int):Int)>most)) (
  ret (IntKind.wrap .i64 (most+1))) (
   J0 (IntKind.wrap .i64 ((IntKind.wrap .i64 (1+(t.r.length:Int)))+(t.name.size:Int))) 0))
noncomputable def fi {S:Type}:Nat→Tm→Int→(Int→Option S)→Option S
 |0=>fun _ _ _=> .none
 |k+1=>fun t most ret=>Ev (fi k) k ret (fun v5 i6=>lH (fi k) k ret t most k v5 i6) t most
noncomputable def Ou {S:Type} (k:Nat) (ret:Bool→Option S) (t:Tm):Option S:=
 fi k (ac t) 150 fun r1=>
 ret (decide ((r1:Int)>150))
noncomputable def Al {S:Type} (k:Nat) (t:Tm) (ret:Bool→Option S):Option S:=Ou k ret t
noncomputable def afn {S:Type} (k:Nat) (ret:Int×Int×ByteArray×List Tm→Option S) (kind:Int) (kids:List Tm):Option S:=
 ret (kind,0,ByteArray.empty,kids)
noncomputable def dI {S:Type} (k:Nat) (kind:Int) (kids:List Tm) (ret:Int×Int×ByteArray×List Tm→Option S):Option S:=afn k ret kind kids
def Po {S:Type} (k:Nat) (ret:Int×Int→Option S) (kind kid:Int):Option S:=
 ab (kind==4) (
 ab (kid==1) (
  ret (1,0)) (
  ret (0,0))) (
 ab (kind==7) (
  ab (kid==1) (
  ret (1,0)) (
  ret (0,0))) (
  ab (kind==5) (
  ab (kid==0) (
   ret (1,0)) (
   ret (0,0))) (
  ab (kind==22) (
   ab (kid==0) (
   ret (1,0)) (
   ret (0,0))) (
   ab (kind==27) (
   ab (kid==0) (
    ret (1,0)) (
    ret (0,0))) (
   ab (kind==11) (
    ab (kid==0) (
    ret (0,1)) (
    ret (0,0))) (
    ab (kind==12) (
    ab (kid==0) (
     ret (0,1)) (
     ret (0,0))) (
    ab (kind==14) (
     ab (kid==0) (
     ret (0,1)) (
     ret (0,0))) (
     ret (0,0)))))))))
noncomputable def fj {S:Type} (k:Nat) (kind kid:Int) (ret:Int×Int→Option S):Option S:=Po k ret kind kid
abbrev cS (S:Type):=Tm→Int→(Bool→Option S)→Option S
noncomputable def EV {S:Type} (hd:cS S) (k:Nat) (ret:Bool→Option S) (a_k:Tm) (p p' c0:Int):Option S:=
 hd (ac a_k) (IntKind.wrap .i64 (c0-1)) fun r1=>
 ret r1
noncomputable def qL {S:Type} (hd:cS S) (k:Nat) (a_k:Tm) (p p' c0:Int) (ret:Bool→Option S):Option S:=EV hd k ret a_k p p' c0
def uz {S:Type} (hd:cS S) (k:Nat) (ret:Bool→Option S) (c0:Int) (t:Tm) (v42:Int) (x4:(Br Tm)) (more9:Int) (rec1:Int→Int→Option S) (rec2:Int→Option S) (v49:Int):Option S:=
 ab (decide ((v49:Int)<(x4.kids.length:Int))) (
 Option.bind (ae x4.kids v49) fun x5=>
 aa k (qL hd k (ac x5) 0 more9 c0) fun r6=>
 ab (!r6) (
  ret false) (
   rec2 (IntKind.wrap .i64 (v49+1)))) (
  rec1 (IntKind.wrap .i64 (v42+1)) more9)
noncomputable def lP {S:Type} (hd:cS S) (k:Nat) (ret:Bool→Option S) (rec1:Int→Int→Option S) (c0:Int) (t:Tm) (v42:Int) (x4:(Br Tm)) (more9:Int):Nat→Int→Option S
 |0=>fun _=> .none
 |m+1=>fun v49=>uz hd k ret c0 t v42 x4 more9 rec1 (lP hd k ret rec1 c0 t v42 x4 more9 m) v49
def p4 {S:Type} (hd:cS S) (k:Nat) (ret:Bool→Option S) (c0:Int) (t:Tm) (J2:Int→(Br Tm)→Int→Int→Option S) (rec1:Int→Int→Option S) (v42 more9:Int):Option S:=
 ab (decide ((v42:Int)<(t.sys.length:Int))) (
 Option.bind (ae t.sys v42) fun x4=>
  J2 v42 x4 more9 0) (
 ret true)
noncomputable def gS {S:Type} (hd:cS S) (k:Nat) (ret:Bool→Option S) (c0:Int) (t:Tm):Nat→Int→Int→Option S
 |0=>fun _ _=> .none
 |m+1=>fun v42 more9=>p4 hd k ret c0 t (fun v42 x4 more9 v49=>lP hd k ret (gS hd k ret c0 t m) c0 t v42 x4 more9 k v49) (gS hd k ret c0 t m) v42 more9
def pZ {S:Type} (hd:cS S) (k:Nat) (ret:Bool→Option S) (c0:Int) (t:Tm) (J1:Int→Int→Option S) (rec0:Int→Option S) (v17:Int):Option S:=
 ab (decide ((v17:Int)<(t.kids.length:Int))) (
 Option.bind (ae t.kids v17) fun x1=>
 aa k (fj k t.kind v17) fun r2=>
 aa k (qL hd k (ac x1) r2.1 r2.2 c0) fun r3=>
 ab (!r3) (
  ret false) (
   rec0 (IntKind.wrap .i64 (v17+1)))) (
 ab (t.kind==15) (
   J1 0 1) (
   J1 0 0))
noncomputable def n_ {S:Type} (hd:cS S) (k:Nat) (ret:Bool→Option S) (c0:Int) (t:Tm):Nat→Int→Option S
 |0=>fun _=> .none
 |m+1=>fun v17=>pZ hd k ret c0 t (fun v42 more9=>gS hd k ret c0 t k v42 more9) (n_ hd k ret c0 t m) v17
noncomputable def ER {S:Type} (hd:cS S) (k:Nat) (ret:Bool→Option S) (J0:Int→Option S) (t:Tm) (c0:Int):Option S:=
 J0 0
noncomputable def Av {S:Type} (hd:cS S) (k:Nat) (t:Tm) (c0:Int) (ret:Bool→Option S):Option S:=ER hd k ret (fun v17=>n_ hd k ret c0 t k v17) t c0
def Pw {S:Type} (hd:cS S) (k:Nat) (ret:Bool→Option S) (t:Tm) (left:Int):Option S:=
 ab (decide ((left:Int)>0)) (
 aa k (Av hd k (ac t) left) fun r1=>
 ret r1) (
 ret false)
noncomputable def gI {S:Type}:Nat→Tm→Int→(Bool→Option S)→Option S
 |0=>fun _ _ _=> .none
 |k+1=>fun t left ret=>Pw (gI k) k ret t left
abbrev cR (S:Type):=Tm→Int→(Bool×Int→Option S)→Option S
def EX {S:Type} (hd:cR S) (k:Nat) (ret:Bool×Int→Option S) (t:Tm) (c0:Int):Option S:=
 ab (decide ((IntKind.wrap .i64 (c0-1):Int)≥0)) (
 hd (ac t) (IntKind.wrap .i64 (c0-1)) fun r1=>
 ret (r1.1,r1.2)) (
 ret (false,IntKind.wrap .i64 (c0-1)))
noncomputable def mZ {S:Type} (hd:cR S) (k:Nat) (t:Tm) (c0:Int) (ret:Bool×Int→Option S):Option S:=EX hd k ret t c0
noncomputable def EW {S:Type} (hd:cR S) (k:Nat) (ret:Bool×Int→Option S) (a_k:Tm) (p p' c1:Int):Option S:=
 aa k (mZ hd k (ac a_k) c1) fun r1=>
 ret (r1.1,r1.2)
noncomputable def qM {S:Type} (hd:cR S) (k:Nat) (a_k:Tm) (p p' c1:Int) (ret:Bool×Int→Option S):Option S:=EW hd k ret a_k p p' c1
def ux {S:Type} (hd:cR S) (k:Nat) (ret:Bool×Int→Option S) (t:Tm) (v42:Int) (x4:(Br Tm)) (more9:Int) (rec1:Int→Int→Int→Option S) (rec2:Int→Int→Option S) (e1_0'' v49:Int):Option S:=
 ab (decide ((v49:Int)<(x4.kids.length:Int))) (
 Option.bind (ae x4.kids v49) fun x5=>
 aa k (qM hd k (ac x5) 0 more9 e1_0'') fun r6=>
 ab (!r6.1) (
  ret (false,r6.2)) (
   rec2 r6.2 (IntKind.wrap .i64 (v49+1)))) (
  rec1 e1_0'' (IntKind.wrap .i64 (v42+1)) more9)
noncomputable def jb {S:Type} (hd:cR S) (k:Nat) (ret:Bool×Int→Option S) (rec1:Int→Int→Int→Option S) (t:Tm) (v42:Int) (x4:(Br Tm)) (more9:Int):Nat→Int→Int→Option S
 |0=>fun _ _=> .none
 |m+1=>fun e1_0'' v49=>ux hd k ret t v42 x4 more9 rec1 (jb hd k ret rec1 t v42 x4 more9 m) e1_0'' v49
def pW {S:Type} (hd:cR S) (k:Nat) (ret:Bool×Int→Option S) (t:Tm) (J2:Int→(Br Tm)→Int→Int→Int→Option S) (rec1:Int→Int→Int→Option S) (e1_0' v42 more9:Int):Option S:=
 ab (decide ((v42:Int)<(t.sys.length:Int))) (
 Option.bind (ae t.sys v42) fun x4=>
  J2 v42 x4 more9 e1_0' 0) (
 ret (true,e1_0'))
noncomputable def f7 {S:Type} (hd:cR S) (k:Nat) (ret:Bool×Int→Option S) (t:Tm):Nat→Int→Int→Int→Option S
 |0=>fun _ _ _=> .none
 |m+1=>fun e1_0' v42 more9=>pW hd k ret t (fun v42 x4 more9 e1_0'' v49=>jb hd k ret (f7 hd k ret t m) t v42 x4 more9 k e1_0'' v49) (f7 hd k ret t m) e1_0' v42 more9
def pV {S:Type} (hd:cR S) (k:Nat) (ret:Bool×Int→Option S) (t:Tm) (J1:Int→Int→Int→Option S) (rec0:Int→Int→Option S) (e1_0 v17:Int):Option S:=
 ab (decide ((v17:Int)<(t.kids.length:Int))) (
 Option.bind (ae t.kids v17) fun x1=>
 aa k (fj k t.kind v17) fun r2=>
 aa k (qM hd k (ac x1) r2.1 r2.2 e1_0) fun r3=>
 ab (!r3.1) (
  ret (false,r3.2)) (
   rec0 r3.2 (IntKind.wrap .i64 (v17+1)))) (
 ab (t.kind==15) (
   J1 e1_0 0 1) (
   J1 e1_0 0 0))
noncomputable def lN {S:Type} (hd:cR S) (k:Nat) (ret:Bool×Int→Option S) (t:Tm):Nat→Int→Int→Option S
 |0=>fun _ _=> .none
 |m+1=>fun e1_0 v17=>pV hd k ret t (fun e1_0' v42 more9=>f7 hd k ret t k e1_0' v42 more9) (lN hd k ret t m) e1_0 v17
noncomputable def EP {S:Type} (hd:cR S) (k:Nat) (ret:Bool×Int→Option S) (J0:Int→Int→Option S) (t:Tm) (c1:Int):Option S:=
 J0 c1 0
noncomputable def ep {S:Type}:Nat→Tm→Int→(Bool×Int→Option S)→Option S
 |0=>fun _ _ _=> .none
 |k+1=>fun t c1 ret=>EP (ep k) k ret (fun e1_0 v17=>lN (ep k) k ret t k e1_0 v17) t c1
noncomputable def Py {S:Type} (k:Nat) (ret:Bool→Option S) (t:Tm) (most:Int):Option S:=
 aa k (mZ (ep k) k (ac t) most) fun r1=>
 ret r1.1
noncomputable def vK {S:Type} (k:Nat) (t:Tm) (most:Int) (ret:Bool→Option S):Option S:=Py k ret t most
def Px {S:Type} (k:Nat) (ret:Int→Option S) (t:Tm):Option S:=
 gI k (ac t) 200 fun r1=>
 ab (!r1) (
 ret 62) (
 aa k (vK k (ac t) 20000) fun r2=>
 ab (!r2) (
  ret 221) (
  ret 0))
noncomputable def vJ {S:Type} (k:Nat) (t:Tm) (ret:Int→Option S):Option S:=Px k ret t
def Pq {S:Type} (k:Nat) (ret:Int→Option S) (kind:Int):Option S:=
 ab (kind==1) (
 ret 0) (
 ab (kind==2) (
  ret 0) (
  ab (kind==3) (
  ret 0) (
  ab (kind==19) (
   ret 0) (
   ab (kind==20) (
   ret 0) (
   ab (kind==24) (
    ret 0) (
    ab (kind==25) (
    ret 0) (
    ab (kind==21) (
     ret 0) (
     ab (kind==5) (
     ret 1) (
     ab (kind==9) (
      ret 1) (
      ab (kind==10) (
      ret 1) (
      ab (kind==23) (
       ret 1) (
       ab (kind==12) (
       ret 1) (
       ab (kind==16) (
        ret 1) (
        ab (kind==17) (
        ret 1) (
        ab (kind==18) (
         ret 1) (
         ab (kind==26) (
         ret 1) (
         ab (kind==4) (
          ret 2) (
          ab (kind==7) (
          ret 2) (
          ab (kind==6) (
           ret 2) (
           ab (kind==8) (
           ret 2) (
           ab (kind==14) (
            ret 2) (
            ab (kind==15) (
            ret 2) (
            ab (kind==28) (
             ret 2) (
             ab (kind==11) (
             ret 3) (
             ab (kind==13) (
              ret 3) (
              ab (kind==22) (
              ret 4) (
              ab (kind==27) (
               ret 5) (
               ret (-1)))))))))))))))))))))))))))))
noncomputable def vG {S:Type} (k:Nat) (kind:Int) (ret:Int→Option S):Option S:=Pq k ret kind
def Pr {S:Type} (k:Nat) (ret:Int→Option S) (kind:Int):Option S:=
 ab (kind==15) (
 ret 1) (
 ab (kind==17) (
  ret 1) (
  ab (kind==18) (
  ret 1) (
  ab (kind==16) (
   ret 2) (
   ret 0))))
noncomputable def jI {S:Type} (k:Nat) (kind:Int) (ret:Int→Option S):Option S:=Pr k ret kind
def zL {S:Type} (k:Nat) (ret:Bool→Option S) (s:ByteArray) (v8:Int) (x1:UInt8) (rec0:Int→Option S) (letter5:Bool):Option S:=
 ab (!letter5) (
 ab (v8==0) (
  ret false) (
  ab (decide (((x1.toNat:Int):Int)<48)) (
  ret false) (
  ab (decide (((x1.toNat:Int):Int)>57)) (
   ret false) (
     rec0 (IntKind.wrap .i64 (v8+1)))))) (
  rec0 (IntKind.wrap .i64 (v8+1)))
noncomputable def wH {S:Type} (k:Nat) (ret:Bool→Option S) (rec0:Int→Option S) (s:ByteArray) (v8:Int) (x1:UInt8):Nat→Bool→Option S
 |0=>fun _=> .none
 |_+1=>fun letter5=>zL k ret s v8 x1 rec0 letter5
def p5 {S:Type} (k:Nat) (ret:Bool→Option S) (s:ByteArray) (J1:Int→UInt8→Bool→Option S) (rec0:Int→Option S) (v8:Int):Option S:=
 ab (decide ((v8:Int)<(s.size:Int))) (
 Option.bind (ae s.data.toList v8) fun x1=>
 ab (decide (((x1.toNat:Int):Int)≥97)) (
  ab (decide (((x1.toNat:Int):Int)≤122)) (
    J1 v8 x1 true) (
  ab (decide (((x1.toNat:Int):Int)≥65)) (
   ab (decide (((x1.toNat:Int):Int)≤90)) (
      J1 v8 x1 true) (
      J1 v8 x1 ((x1.toNat:Int)==95))) (
     J1 v8 x1 ((x1.toNat:Int)==95)))) (
  ab (decide (((x1.toNat:Int):Int)≥65)) (
  ab (decide (((x1.toNat:Int):Int)≤90)) (
     J1 v8 x1 true) (
     J1 v8 x1 ((x1.toNat:Int)==95))) (
    J1 v8 x1 ((x1.toNat:Int)==95)))) (
 ret (!(s==ByteArray.empty)))
noncomputable def lQ {S:Type} (k:Nat) (ret:Bool→Option S) (s:ByteArray):Nat→Int→Option S
 |0=>fun _=> .none
 |m+1=>fun v8=>p5 k ret s (fun v8 x1 letter5=>wH k ret (lQ k ret s m) s v8 x1 k letter5) (lQ k ret s m) v8
noncomputable def ES {S:Type} (k:Nat) (ret:Bool→Option S) (J0:Int→Option S) (s:ByteArray):Option S:=
 J0 0
noncomputable def vI {S:Type} (k:Nat) (s:ByteArray) (ret:Bool→Option S):Option S:=ES k ret (fun v8=>lQ k ret s k v8) s
noncomputable def OB {S:Type} (k:Nat) (ret:Bool→Option S) (s:Int):Option S:=
 ret ((aV .andNot .u32 s 16777215)==0)
noncomputable def mN {S:Type} (k:Nat) (s:Int) (ret:Bool→Option S):Option S:=OB k ret s
def NU {S:Type} (k:Nat) (ret:Bool→Option S) (c:Cl):Option S:=
 aa k (mN k c.pos) fun r1=>
 ab (r1) (
 aa k (mN k c.neg) fun r2=>
 ret r2) (
 ret false)
noncomputable def qb {S:Type} (k:Nat) (c:Cl) (ret:Bool→Option S):Option S:=NU k ret c
noncomputable def NT {S:Type} (k:Nat) (ret:Cl→Option S) (a b:Cl):Option S:=
 ret (Cl.mk (aV .or .u32 a.pos b.pos) (aV .or .u32 a.neg b.neg))
noncomputable def mD {S:Type} (k:Nat) (a b:Cl) (ret:Cl→Option S):Option S:=NT k ret a b
noncomputable def NO {S:Type} (k:Nat) (ret:Bool→Option S) (a b:Cl):Option S:=
 aa k (mD k a b) fun r1=>
 ret ((r1.pos==a.pos)&&((r1.neg==a.neg)&&true))
noncomputable def uK {S:Type} (k:Nat) (a b:Cl) (ret:Bool→Option S):Option S:=NO k ret a b
def NR {S:Type} (k:Nat) (ret:Bool→Option S) (d c0:Cl):Option S:=
 ab (!((c0.pos==d.pos)&&((c0.neg==d.neg)&&true))) (
 aa k (uK k c0 d) fun r1=>
 ret r1) (
 ret false)
noncomputable def uM {S:Type} (k:Nat) (d c0:Cl) (ret:Bool→Option S):Option S:=NR k ret d c0
def ur {S:Type} (k:Nat) (ret:Int→Option S) (c0:Cl) (s:List Cl) (rec0:Int→Option S) (v8:Int):Option S:=
 ab (decide ((v8:Int)<(s.length:Int))) (
 Option.bind (ae s v8) fun x1=>
 aa k (uM k x1 c0) fun r2=>
 ab (r2) (
  ret v8) (
   rec0 (IntKind.wrap .i64 (v8+1)))) (
 ret (-1))
noncomputable def n5 {S:Type} (k:Nat) (ret:Int→Option S) (c0:Cl) (s:List Cl):Nat→Int→Option S
 |0=>fun _=> .none
 |m+1=>fun v8=>ur k ret c0 s (n5 k ret c0 s m) v8
noncomputable def EJ {S:Type} (k:Nat) (ret:Int→Option S) (J0:Int→Option S) (s:List Cl) (c0:Cl):Option S:=
 J0 0
noncomputable def Aq {S:Type} (k:Nat) (s:List Cl) (c0:Cl) (ret:Int→Option S):Option S:=EJ k ret (fun v8=>n5 k ret c0 s k v8) s c0
noncomputable def Pm {S:Type} (k:Nat) (ret:Bool→Option S) (s:List Cl) (c0:Cl):Option S:=
 aa k (Aq k s c0) fun r1=>
 ret (decide ((r1:Int)≥0))
noncomputable def Ao {S:Type} (k:Nat) (s:List Cl) (c0:Cl) (ret:Bool→Option S):Option S:=Pm k ret s c0
noncomputable def NQ {S:Type} (k:Nat) (ret:Bool→Option S) (c:Cl) (c0:List Cl):Option S:=
 aa k (Ao k c0 c) fun r1=>
 ret r1
noncomputable def uL {S:Type} (k:Nat) (c:Cl) (c0:List Cl) (ret:Bool→Option S):Option S:=NQ k ret c c0
def tk {S:Type} (k:Nat) (ret:List Cl×Int→Option S) (b5_0:List Cl) (rec1:Int→(List Cl)→Option S) (v36:Int) (kept9:List Cl):Option S:=
 ab (decide ((v36:Int)<(b5_0.length:Int))) (
 Option.bind (ae b5_0 v36) fun x4=>
 aa k (uL k x4 b5_0) fun r5=>
 ab (!r5) (
  Option.bind (aq 1099511627776 kept9.length [x4].length) fun x6=>
   rec1 (IntKind.wrap .i64 (v36+1)) (kept9++[x4])) (
   rec1 (IntKind.wrap .i64 (v36+1)) kept9)) (
 ab (decide (((kept9.length:Int):Int)>64)) (
  ret (([]:List Cl),3)) (
  ret (sortCl kept9,0)))
noncomputable def lq {S:Type} (k:Nat) (ret:List Cl×Int→Option S) (b5_0:List Cl):Nat→Int→(List Cl)→Option S
 |0=>fun _ _=> .none
 |m+1=>fun v36 kept9=>tk k ret b5_0 (lq k ret b5_0 m) v36 kept9
def pk {S:Type} (k:Nat) (ret:List Cl×Int→Option S) (l:List Cl) (J1:(List Cl)→Int→(List Cl)→Option S) (rec0:(List (Cl×Bool))→(List Cl)→Int→Option S) (b12_0:List (Cl×Bool)) (b5_0:List Cl) (v15:Int):Option S:=
 ab (decide ((v15:Int)<(l.length:Int))) (
 Option.bind (ae l v15) fun x1=>
 aa k (qb k x1) fun r2=>
 ab (!r2) (
  ret (([]:List Cl),2)) (
  ab (!((dr VV ET.C b12_0 x1).getD false)) (
  Option.bind (aq 1099511627776 b5_0.length [x1].length) fun x3=>
    rec0 (eC VV ET.C b12_0 x1 true) (b5_0++[x1]) (IntKind.wrap .i64 (v15+1))) (
    rec0 b12_0 b5_0 (IntKind.wrap .i64 (v15+1))))) (
  J1 b5_0 0 ([]:List Cl))
noncomputable def nq {S:Type} (k:Nat) (ret:List Cl×Int→Option S) (l:List Cl):Nat→(List (Cl×Bool))→(List Cl)→Int→Option S
 |0=>fun _ _ _=> .none
 |m+1=>fun b12_0 b5_0 v15=>pk k ret l (fun b5_0 v36 kept9=>lq k ret b5_0 k v36 kept9) (nq k ret l m) b12_0 b5_0 v15
noncomputable def DB {S:Type} (k:Nat) (ret:List Cl×Int→Option S) (J0:(List (Cl×Bool))→(List Cl)→Int→Option S) (l:List Cl):Option S:=
 J0 ([]:List (Cl×Bool)) ([]:List Cl) 0
noncomputable def ff {S:Type} (k:Nat) (l:List Cl) (ret:List Cl×Int→Option S):Option S:=DB k ret (fun b12_0 b5_0 v15=>nq k ret l k b12_0 b5_0 v15) l
def uq {S:Type} (k:Nat) (ret:Bool→Option S) (s1 s2:List Cl) (rec0:Int→Option S) (v13:Int):Option S:=
 ab (decide ((v13:Int)<(s1.length:Int))) (
 Option.bind (ae s1 v13) fun x1=>
 Option.bind (ae s2 v13) fun x2=>
 ab (!((x1.pos==x2.pos)&&((x1.neg==x2.neg)&&true))) (
  ret false) (
   rec0 (IntKind.wrap .i64 (v13+1)))) (
 ret true)
noncomputable def n4 {S:Type} (k:Nat) (ret:Bool→Option S) (s1 s2:List Cl):Nat→Int→Option S
 |0=>fun _=> .none
 |m+1=>fun v13=>uq k ret s1 s2 (n4 k ret s1 s2 m) v13
def EI {S:Type} (k:Nat) (ret:Bool→Option S) (J0:Int→Option S) (s1 s2:List Cl):Option S:=
 ab (!((s1.length:Int)==(s2.length:Int))) (
 ret false) (
  J0 0)
noncomputable def vF {S:Type} (k:Nat) (s1 s2:List Cl) (ret:Bool→Option S):Option S:=EI k ret (fun v13=>n4 k ret s1 s2 k v13) s1 s2
def Ok {S:Type} (k:Nat) (ret:Bool→Option S) (f:List Cl):Option S:=
 aa k (ff k f) fun r1=>
 ab (r1.2==0) (
 aa k (vF k r1.1 f) fun r2=>
 ret r2) (
 ret false)
noncomputable def fP {S:Type} (k:Nat) (f:List Cl) (ret:Bool→Option S):Option S:=Ok k ret f
def OF {S:Type} (k:Nat) (ret:Bool→Option S) (i:Int):Option S:=
 ab (decide ((i:Int)≥0)) (
 ret (decide ((i:Int)<24))) (
 ret false)
noncomputable def kZ {S:Type} (k:Nat) (i:Int) (ret:Bool→Option S):Option S:=OF k ret i
def OD {S:Type} (k:Nat) (ret:Int→Option S) (s i:Int):Option S:=
 aa k (kZ k i) fun r1=>
 ab (!r1) (
 ret (aV .and .u32 s 16777215)) (
 Option.bind (bw (0≤(IntKind.wrap .u64 i))) fun x2=>
 ret (aV .andNot .u32 (aV .and .u32 s 16777215) (IntKind.wrap .u32 (1*2^min (Int.toNat (IntKind.wrap .u64 i)) 32))))
noncomputable def iy {S:Type} (k:Nat) (s i:Int) (ret:Int→Option S):Option S:=OD k ret s i
def tA {S:Type} (k:Nat) (ret:Int→Option S) (f:List Cl) (rec0:Int→Int→Option S) (s3 v8:Int):Option S:=
 ab (decide ((v8:Int)<(f.length:Int))) (
 Option.bind (ae f v8) fun x1=>
  rec0 (aV .or .u32 s3 (aV .or .u32 x1.pos x1.neg)) (IntKind.wrap .i64 (v8+1))) (
 aa k (iy k s3 (-1)) fun r2=>
 ret r2)
noncomputable def nz {S:Type} (k:Nat) (ret:Int→Option S) (f:List Cl):Nat→Int→Int→Option S
 |0=>fun _ _=> .none
 |m+1=>fun s3 v8=>tA k ret f (nz k ret f m) s3 v8
noncomputable def DS {S:Type} (k:Nat) (ret:Int→Option S) (J0:Int→Int→Option S) (f:List Cl):Option S:=
 J0 0 0
noncomputable def mH {S:Type} (k:Nat) (f:List Cl) (ret:Int→Option S):Option S:=DS k ret (fun s3 v8=>nz k ret f k s3 v8) f
def Pz {S:Type} (k:Nat) (ret:Bool→Option S) (f:List Cl) (dims:Int):Option S:=
 ab (decide ((dims:Int)≥24)) (
 ret true) (
 aa k (mH k f) fun r1=>
 Option.bind (bw (0≤(IntKind.wrap .u64 dims))) fun x2=>
 ret ((Int.fdiv r1 (2^min (Int.toNat (IntKind.wrap .u64 dims)) 32))==0))
noncomputable def jJ {S:Type} (k:Nat) (f:List Cl) (dims:Int) (ret:Bool→Option S):Option S:=Pz k ret f dims
noncomputable def NP {S:Type} (k:Nat) (ret:Bool→Option S) (c:Cl):Option S:=
 ret (!((aV .and .u32 c.pos c.neg)==0))
noncomputable def p_ {S:Type} (k:Nat) (c:Cl) (ret:Bool→Option S):Option S:=NP k ret c
def ut {S:Type} (k:Nat) (ret:Int→Option S) (s:List Cl) (rec0:Int→Option S) (v8:Int):Option S:=
 ab (decide ((v8:Int)<(s.length:Int))) (
 Option.bind (ae s v8) fun x1=>
 aa k (p_ k x1) fun r2=>
 ab (r2) (
  ret v8) (
   rec0 (IntKind.wrap .i64 (v8+1)))) (
 ret (-1))
noncomputable def n7 {S:Type} (k:Nat) (ret:Int→Option S) (s:List Cl):Nat→Int→Option S
 |0=>fun _=> .none
 |m+1=>fun v8=>ut k ret s (n7 k ret s m) v8
noncomputable def EK {S:Type} (k:Nat) (ret:Int→Option S) (J0:Int→Option S) (s:List Cl):Option S:=
 J0 0
noncomputable def Ar {S:Type} (k:Nat) (s:List Cl) (ret:Int→Option S):Option S:=EK k ret (fun v8=>n7 k ret s k v8) s
noncomputable def Pn {S:Type} (k:Nat) (ret:Bool→Option S) (s:List Cl):Option S:=
 aa k (Ar k s) fun r1=>
 ret (decide ((r1:Int)≥0))
noncomputable def Ap {S:Type} (k:Nat) (s:List Cl) (ret:Bool→Option S):Option S:=Pn k ret s
def N9 {S:Type} (k:Nat) (ret:Bool→Option S) (f:List Cl):Option S:=
 aa k (fP k f) fun r1=>
 ab (r1) (
 aa k (Ap k f) fun r2=>
 ret (!r2)) (
 ret false)
noncomputable def mF {S:Type} (k:Nat) (f:List Cl) (ret:Bool→Option S):Option S:=N9 k ret f
def uA {S:Type} (k:Nat) (ret:Bool→Option S) (t:Tm) (dims:Int) (rec1:Int→Option S) (v109:Int):Option S:=
 ab (decide ((v109:Int)<(t.sys.length:Int))) (
 Option.bind (ae t.sys v109) fun x12=>
 aa k (jI k t.kind) fun r13=>
 ab (!((x12.kids.length:Int)==r13)) (
  ret false) (
  aa k (mF k x12.face) fun r14=>
  ab (!r14) (
  ret false) (
  aa k (jJ k x12.face dims) fun r15=>
  ab (!r15) (
   ret false) (
     rec1 (IntKind.wrap .i64 (v109+1)))))) (
 ret ((t.r.length:Int)==0))
noncomputable def jc {S:Type} (k:Nat) (ret:Bool→Option S) (t:Tm) (dims:Int):Nat→Int→Option S
 |0=>fun _=> .none
 |m+1=>fun v109=>uA k ret t dims (jc k ret t dims m) v109
def p6 {S:Type} (k:Nat) (ret:Bool→Option S) (t:Tm) (vars dims:Int) (J1:Int→Option S):Option S:=
 ab (t.kind==1) (
 ab ((t.r.length:Int)==0) (
  ab (decide ((t.n:Int)≥0)) (
  ab (decide ((vars:Int)<0)) (
   ret true) (
   ret (decide ((t.n:Int)<vars)))) (
  ret false)) (
  ret false)) (
 ab (t.kind==2) (
  ab ((t.r.length:Int)==0) (
  aa k (vI k t.name) fun r3=>
  ret r3) (
  ret false)) (
  ab (t.kind==13) (
  aa k (fP k t.r) fun r4=>
  ab (r4) (
   aa k (jJ k t.r dims) fun r5=>
   ret r5) (
   ret false)) (
  ab (t.kind==21) (
   aa k (fP k t.r) fun r6=>
   ab (r6) (
   aa k (jJ k t.r dims) fun r7=>
   ret r7) (
   ret false)) (
   ab (t.kind==26) (
   aa k (fP k t.r) fun r8=>
   ab (r8) (
    aa k (jJ k t.r dims) fun r9=>
    ret r9) (
    ret false)) (
   ab (t.kind==14) (
    aa k (mF k t.r) fun r10=>
    ab (r10) (
    aa k (jJ k t.r dims) fun r11=>
    ret r11) (
    ret false)) (
       J1 0))))))
noncomputable def wI {S:Type} (k:Nat) (ret:Bool→Option S) (t:Tm) (vars dims:Int):Nat→Option S
 |0=> .none
 |_+1=>p6 k ret t vars dims (fun v109=>jc k ret t dims k v109)
def EU {S:Type} (k:Nat) (ret:Bool→Option S) (J0:Option S) (t:Tm) (vars dims:Int):Option S:=
 aa k (vG k t.kind) fun r1=>
 ab (!(r1==(t.kids.length:Int))) (
 ret false) (
 ab (!(t.kind==1)) (
  ab (!(t.n==0)) (
  ret false) (
  ab (!(t.kind==2)) (
   ab (!(t.name==ByteArray.empty)) (
   ret false) (
   aa k (jI k t.kind) fun r2=>
   ab (r2==0) (
    ab (decide (((t.sys.length:Int):Int)>0)) (
    ret false) (
        J0)) (
       J0))) (
   aa k (jI k t.kind) fun r16=>
   ab (r16==0) (
   ab (decide (((t.sys.length:Int):Int)>0)) (
    ret false) (
       J0)) (
      J0)))) (
  ab (!(t.kind==2)) (
  ab (!(t.name==ByteArray.empty)) (
   ret false) (
   aa k (jI k t.kind) fun r17=>
   ab (r17==0) (
   ab (decide (((t.sys.length:Int):Int)>0)) (
    ret false) (
       J0)) (
      J0))) (
  aa k (jI k t.kind) fun r18=>
  ab (r18==0) (
   ab (decide (((t.sys.length:Int):Int)>0)) (
   ret false) (
      J0)) (
     J0))))
noncomputable def qK {S:Type} (k:Nat) (t:Tm) (vars dims:Int) (ret:Bool→Option S):Option S:=EU k ret (wI k ret t vars dims k) t vars dims
abbrev cQ (S:Type):=Tm→Int→Int→Bool→(Bool→Option S)→Option S
def Pt {S:Type} (hd:cQ S) (k:Nat) (ret:Bool→Option S) (a_k:Tm) (v d c0 c1:Int) (c2:Bool):Option S:=
 ab (decide ((c0:Int)<0)) (
 hd (ac a_k) (IntKind.wrap .i64 (c0+0)) (IntKind.wrap .i64 (c1+d)) c2 fun r1=>
 ret r1) (
 hd (ac a_k) (IntKind.wrap .i64 (c0+v)) (IntKind.wrap .i64 (c1+d)) c2 fun r2=>
 ret r2)
noncomputable def qI {S:Type} (hd:cQ S) (k:Nat) (a_k:Tm) (v d c0 c1:Int) (c2:Bool) (ret:Bool→Option S):Option S:=Pt hd k ret a_k v d c0 c1 c2
def uy {S:Type} (hd:cQ S) (k:Nat) (ret:Bool→Option S) (c0 c1:Int) (c2:Bool) (t:Tm) (v42:Int) (x4:(Br Tm)) (more9:Int) (rec1:Int→Int→Option S) (rec2:Int→Option S) (v49:Int):Option S:=
 ab (decide ((v49:Int)<(x4.kids.length:Int))) (
 Option.bind (ae x4.kids v49) fun x5=>
 aa k (qI hd k (ac x5) 0 more9 c0 c1 c2) fun r6=>
 ab (!r6) (
  ret false) (
   rec2 (IntKind.wrap .i64 (v49+1)))) (
  rec1 (IntKind.wrap .i64 (v42+1)) more9)
noncomputable def ke {S:Type} (hd:cQ S) (k:Nat) (ret:Bool→Option S) (rec1:Int→Int→Option S) (c0 c1:Int) (c2:Bool) (t:Tm) (v42:Int) (x4:(Br Tm)) (more9:Int):Nat→Int→Option S
 |0=>fun _=> .none
 |m+1=>fun v49=>uy hd k ret c0 c1 c2 t v42 x4 more9 rec1 (ke hd k ret rec1 c0 c1 c2 t v42 x4 more9 m) v49
def pY {S:Type} (hd:cQ S) (k:Nat) (ret:Bool→Option S) (c0 c1:Int) (c2:Bool) (t:Tm) (J2:Int→(Br Tm)→Int→Int→Option S) (rec1:Int→Int→Option S) (v42 more9:Int):Option S:=
 ab (decide ((v42:Int)<(t.sys.length:Int))) (
 Option.bind (ae t.sys v42) fun x4=>
  J2 v42 x4 more9 0) (
 ret true)
noncomputable def f8 {S:Type} (hd:cQ S) (k:Nat) (ret:Bool→Option S) (c0 c1:Int) (c2:Bool) (t:Tm):Nat→Int→Int→Option S
 |0=>fun _ _=> .none
 |m+1=>fun v42 more9=>pY hd k ret c0 c1 c2 t (fun v42 x4 more9 v49=>ke hd k ret (f8 hd k ret c0 c1 c2 t m) c0 c1 c2 t v42 x4 more9 k v49) (f8 hd k ret c0 c1 c2 t m) v42 more9
def pX {S:Type} (hd:cQ S) (k:Nat) (ret:Bool→Option S) (c0 c1:Int) (c2:Bool) (t:Tm) (J1:Int→Int→Option S) (rec0:Int→Option S) (v17:Int):Option S:=
 ab (decide ((v17:Int)<(t.kids.length:Int))) (
 Option.bind (ae t.kids v17) fun x1=>
 aa k (fj k t.kind v17) fun r2=>
 aa k (qI hd k (ac x1) r2.1 r2.2 c0 c1 c2) fun r3=>
 ab (!r3) (
  ret false) (
   rec0 (IntKind.wrap .i64 (v17+1)))) (
 ab (t.kind==15) (
   J1 0 1) (
   J1 0 0))
noncomputable def lO {S:Type} (hd:cQ S) (k:Nat) (ret:Bool→Option S) (c0 c1:Int) (c2:Bool) (t:Tm):Nat→Int→Option S
 |0=>fun _=> .none
 |m+1=>fun v17=>pX hd k ret c0 c1 c2 t (fun v42 more9=>f8 hd k ret c0 c1 c2 t k v42 more9) (lO hd k ret c0 c1 c2 t m) v17
noncomputable def EQ {S:Type} (hd:cQ S) (k:Nat) (ret:Bool→Option S) (J0:Int→Option S) (t:Tm) (c0 c1:Int) (c2:Bool):Option S:=
 J0 0
noncomputable def vH {S:Type} (hd:cQ S) (k:Nat) (t:Tm) (c0 c1:Int) (c2:Bool) (ret:Bool→Option S):Option S:=EQ hd k ret (fun v17=>lO hd k ret c0 c1 c2 t k v17) t c0 c1 c2
def Ps {S:Type} (hd:cQ S) (k:Nat) (ret:Bool→Option S) (t:Tm) (vars dims:Int) (bound:Bool):Option S:=
 ab (bound) (
 ab (decide ((dims:Int)>24)) (
  ret false) (
  aa k (qK k (ac t) vars dims) fun r1=>
  ab (!r1) (
  ret false) (
  aa k (vH hd k (ac t) vars dims bound) fun r2=>
  ret r2))) (
 aa k (qK k (ac t) vars dims) fun r3=>
 ab (!r3) (
  ret false) (
  aa k (vH hd k (ac t) vars dims bound) fun r4=>
  ret r4))
noncomputable def fR {S:Type}:Nat→Tm→Int→Int→Bool→(Bool→Option S)→Option S
 |0=>fun _ _ _ _ _=> .none
 |k+1=>fun t vars dims bound ret=>Ps (fR k) k ret t vars dims bound
def Pp {S:Type} (k:Nat) (ret:Int→Option S) (t:Tm):Option S:=
 aa k (vJ k (ac t)) fun r1=>
 ab (!(r1==0)) (
 ret r1) (
 fR k (ac t) (-1) 24 false fun r2=>
 ab (!r2) (
  ret 100) (
  ret 0))
noncomputable def eo {S:Type} (k:Nat) (t:Tm) (ret:Int→Option S):Option S:=Pp k ret t
abbrev d5 (S:Type):=Tm→(Tm→Option S)→Option S
def uw {S:Type} (hd:d5 S) (k:Nat) (ret:List Tm→Option S) (l:List Tm) (rec0:(List Tm)→Int→Option S) (out3:List Tm) (v8:Int):Option S:=
 ab (decide ((v8:Int)<(l.length:Int))) (
 Option.bind (ae l v8) fun x1=>
 hd (ac x1) fun r2=>
 Option.bind (aq 1099511627776 out3.length [(ac r2)].length) fun x3=>
  rec0 (out3++[(ac r2)]) (IntKind.wrap .i64 (v8+1))) (
 ret out3)
noncomputable def n9 {S:Type} (hd:d5 S) (k:Nat) (ret:List Tm→Option S) (l:List Tm):Nat→(List Tm)→Int→Option S
 |0=>fun _ _=> .none
 |m+1=>fun out3 v8=>uw hd k ret l (n9 hd k ret l m) out3 v8
noncomputable def EO {S:Type} (hd:d5 S) (k:Nat) (ret:List Tm→Option S) (J0:(List Tm)→Int→Option S) (l:List Tm):Option S:=
 J0 ([]:List Tm) 0
noncomputable def qJ {S:Type} (hd:d5 S) (k:Nat) (l:List Tm) (ret:List Tm→Option S):Option S:=EO hd k ret (fun out3 v8=>n9 hd k ret l k out3 v8) l
def uu {S:Type} (hd:d5 S) (k:Nat) (ret:Tm→Option S) (t:Tm) (r1:List Cl) (r2:List Tm) (rec0:(List (Br Tm))→Int→Option S) (b3_5:List (Br Tm)) (v22:Int):Option S:=
 ab (decide ((v22:Int)<(t.sys.length:Int))) (
 Option.bind (ae t.sys v22) fun x3=>
 ow x3.face fun r4=>
 aa k (qJ hd k x3.kids) fun r5=>
 Option.bind (aq 1099511627776 b3_5.length [(Br.mk r4 r5)].length) fun x6=>
  rec0 (b3_5++[(Br.mk r4 r5)]) (IntKind.wrap .i64 (v22+1))) (
 ret (Tm.mk t.kind t.n t.name r1 r2 b3_5))
noncomputable def n8 {S:Type} (hd:d5 S) (k:Nat) (ret:Tm→Option S) (t:Tm) (r1:List Cl) (r2:List Tm):Nat→(List (Br Tm))→Int→Option S
 |0=>fun _ _=> .none
 |m+1=>fun b3_5 v22=>uu hd k ret t r1 r2 (n8 hd k ret t r1 r2 m) b3_5 v22
noncomputable def EM {S:Type} (hd:d5 S) (k:Nat) (ret:Tm→Option S) (J0:(List Cl)→(List Tm)→(List (Br Tm))→Int→Option S) (t:Tm):Option S:=
 ow t.r fun r1=>
 aa k (qJ hd k t.kids) fun r2=>
 J0 r1 r2 ([]:List (Br Tm)) 0
noncomputable def dn {S:Type}:Nat→Tm→(Tm→Option S)→Option S
 |0=>fun _ _=> .none
 |k+1=>fun t ret=>EM (dn k) k ret (fun r1 r2 b3_5 v22=>n8 (dn k) k ret t r1 r2 k b3_5 v22) t
noncomputable def sY {S:Type} (k:Nat) (ret:Bool→Option S) (c0:Int):Option S:=
 ret (c0==0)
noncomputable def dB {S:Type} (k:Nat) (c0:Int) (ret:Bool→Option S):Option S:=sY k ret c0
noncomputable def afl {S:Type} (k:Nat) (ret:Int×Int×ByteArray×List Tm→Option S) (kind:Int) (kids:List Tm):Option S:=
 ret (kind,0,ByteArray.empty,kids)
noncomputable def kX {S:Type} (k:Nat) (kind:Int) (kids:List Tm) (ret:Int×Int×ByteArray×List Tm→Option S):Option S:=afl k ret kind kids
noncomputable def afm {S:Type} (k:Nat) (ret:Int×Int×ByteArray×List Tm×List (Br Tm)→Option S) (sys:List (Br Tm)):Option S:=
 aa k (kX k 3 ([]:List Tm)) fun r1=>
 aa k (kX k 3 ([]:List Tm)) fun r2=>
 ret (15,0,ByteArray.empty,[(Tm.mk r1.1 r1.2.1 r1.2.2.1 [] r1.2.2.2 []),(Tm.mk r2.1 r2.2.1 r2.2.2.1 [] r2.2.2.2 [])],sys)
noncomputable def uJ {S:Type} (k:Nat) (sys:List (Br Tm)) (ret:Int×Int×ByteArray×List Tm×List (Br Tm)→Option S):Option S:=afm k ret sys
def afe {S:Type} (k:Nat) (ret:Int→Option S) (a_e c0:Int):Option S:=
 ab (c0==0) (
 ret a_e) (
 ret c0)
noncomputable def jx {S:Type} (k:Nat) (a_e c0:Int) (ret:Int→Option S):Option S:=afe k ret a_e c0
def Fi {S:Type} (k:Nat) (ret:Int→Option S) (l:List Tm) (rec0:Int→Int→Option S) (b7_0 v10:Int):Option S:=
 ab (decide ((v10:Int)<(l.length:Int))) (
 Option.bind (ae l v10) fun x1=>
 aa k (eo k (ac x1)) fun r2=>
 aa k (jx k r2 b7_0) fun r3=>
  rec0 r3 (IntKind.wrap .i64 (v10+1))) (
 ret b7_0)
noncomputable def Bv {S:Type} (k:Nat) (ret:Int→Option S) (l:List Tm):Nat→Int→Int→Option S
 |0=>fun _ _=> .none
 |m+1=>fun b7_0 v10=>Fi k ret l (Bv k ret l m) b7_0 v10
noncomputable def NN {S:Type} (k:Nat) (ret:Int→Option S) (J0:Int→Int→Option S) (l:List Tm):Option S:=
 J0 0 0
noncomputable def z6 {S:Type} (k:Nat) (l:List Tm) (ret:Int→Option S):Option S:=NN k ret (fun b7_0 v10=>Bv k ret l k b7_0 v10) l
noncomputable def aff {S:Type} (k:Nat) (ret:Bool→Option S) (c0:Int):Option S:=
 ret (c0==0)
noncomputable def fO {S:Type} (k:Nat) (c0:Int) (ret:Bool→Option S):Option S:=aff k ret c0
def tH {S:Type} (k:Nat) (ret:Int→Option S) (l:List (List Cl)) (rec0:Int→Option S) (v7:Int):Option S:=
 ab (decide ((v7:Int)<(l.length:Int))) (
 Option.bind (ae l v7) fun x1=>
 aa k (fP k x1) fun r2=>
 ab (!r2) (
  ret 2) (
   rec0 (IntKind.wrap .i64 (v7+1)))) (
 ret 0)
noncomputable def nE {S:Type} (k:Nat) (ret:Int→Option S) (l:List (List Cl)):Nat→Int→Option S
 |0=>fun _=> .none
 |m+1=>fun v7=>tH k ret l (nE k ret l m) v7
noncomputable def D0 {S:Type} (k:Nat) (ret:Int→Option S) (J0:Int→Option S) (l:List (List Cl)):Option S:=
 J0 0
noncomputable def mK {S:Type} (k:Nat) (l:List (List Cl)) (ret:Int→Option S):Option S:=D0 k ret (fun v7=>nE k ret l k v7) l
noncomputable def DU {S:Type} (k:Nat) (ret:List Cl→Option S):Option S:=
 ret ([]:List Cl)
noncomputable def qk {S:Type} (k:Nat) (ret:List Cl→Option S):Option S:=DU k ret
noncomputable def OE {S:Type} (k:Nat) (ret:Int→Option S) (i:Int):Option S:=
 Option.bind (bw (0≤(IntKind.wrap .u64 (if 24<i then 24 else i)))) fun x1=>
 ret (IntKind.wrap .u32 (IntKind.wrap .u64 ((IntKind.wrap .u64 (1*2^min (Int.toNat (IntKind.wrap .u64 (if 24<i then 24 else i))) 64))-1)))
noncomputable def mO {S:Type} (k:Nat) (i:Int) (ret:Int→Option S):Option S:=OE k ret i
def ye {S:Type} (k:Nat) (ret:Int×Int→Option S) (s a_from a_by:Int):Option S:=
 ab (decide ((a_from:Int)<0)) (
 ret (0,2)) (
 ab (decide ((a_by:Int)<0)) (
  ret (0,2)) (
  aa k (mO k a_from) fun r1=>
  aa k (mO k a_from) fun r2=>
  ab ((IntKind.wrap .u64 (aV .andNot .u32 (aV .and .u32 s 16777215) r2))==0) (
  ret (aV .and .u32 (aV .and .u32 s 16777215) r1,0)) (
  ab (decide ((a_by:Int)≥24)) (
   ret (0,10)) (
   Option.bind (bw (0≤(IntKind.wrap .u64 a_by))) fun x3=>
   ab (decide ((IntKind.wrap .u64 ((IntKind.wrap .u64 (aV .andNot .u32 (aV .and .u32 s 16777215) r2))*2^min (Int.toNat (IntKind.wrap .u64 a_by)) 64):Int)>16777215)) (
   ret (0,10)) (
   Option.bind (bw (0≤(IntKind.wrap .u64 a_by))) fun x4=>
   ret (aV .or .u32 (aV .and .u32 (aV .and .u32 s 16777215) r1) (IntKind.wrap .u32 (IntKind.wrap .u64 ((IntKind.wrap .u64 (aV .andNot .u32 (aV .and .u32 s 16777215) r2))*2^min (Int.toNat (IntKind.wrap .u64 a_by)) 64))),0))))))
noncomputable def jB {S:Type} (k:Nat) (s a_from a_by:Int) (ret:Int×Int→Option S):Option S:=ye k ret s a_from a_by
def NS {S:Type} (k:Nat) (ret:Cl×Int→Option S) (c:Cl) (a_from a_by:Int):Option S:=
 aa k (qb k c) fun r1=>
 ab (!r1) (
 ret ((Cl.mk 0 0),2)) (
 aa k (jB k c.pos a_from a_by) fun r2=>
 ab (!(r2.2==0)) (
  ret ((Cl.mk 0 0),r2.2)) (
  aa k (jB k c.neg a_from a_by) fun r3=>
  ab (!(r3.2==0)) (
  ret ((Cl.mk 0 0),r3.2)) (
  ret ((Cl.mk r2.1 r3.1),0))))
noncomputable def uN {S:Type} (k:Nat) (c:Cl) (a_from a_by:Int) (ret:Cl×Int→Option S):Option S:=NS k ret c a_from a_by
noncomputable def Og {S:Type} (k:Nat) (ret:List Cl×Int→Option S) (a_have:List Cl) (c:Cl) (c0 c1:Int):Option S:=
 aa k (uN k c c0 c1) fun r1=>
 Option.bind (aq 1099511627776 a_have.length [r1.1].length) fun x2=>
 ret (a_have++[r1.1],r1.2)
noncomputable def Ag {S:Type} (k:Nat) (a_have:List Cl) (c:Cl) (c0 c1:Int) (ret:List Cl×Int→Option S):Option S:=Og k ret a_have c c0 c1
def tD {S:Type} (k:Nat) (ret:List Cl×Int→Option S) (c0 c1:Int) (l:List Cl) (rec0:(List Cl)→Int→Option S) (v1:List Cl) (v15:Int):Option S:=
 ab (decide ((v15:Int)<(l.length:Int))) (
 Option.bind (ae l v15) fun x1=>
 aa k (Ag k v1 x1 c0 c1) fun r2=>
 ab (!(r2.2==0)) (
  ret (([]:List Cl),r2.2)) (
   rec0 r2.1 (IntKind.wrap .i64 (v15+1)))) (
 ret (v1,0))
noncomputable def nC {S:Type} (k:Nat) (ret:List Cl×Int→Option S) (c0 c1:Int) (l:List Cl):Nat→(List Cl)→Int→Option S
 |0=>fun _ _=> .none
 |m+1=>fun v1 v15=>tD k ret c0 c1 l (nC k ret c0 c1 l m) v1 v15
noncomputable def DX {S:Type} (k:Nat) (ret:List Cl×Int→Option S) (J0:(List Cl)→Int→Option S) (l a_from:List Cl) (c0 c1:Int):Option S:=
 J0 a_from 0
noncomputable def u6 {S:Type} (k:Nat) (l a_from:List Cl) (c0 c1:Int) (ret:List Cl×Int→Option S):Option S:=DX k ret (fun v1 v15=>nC k ret c0 c1 l k v1 v15) l a_from c0 c1
def Of {S:Type} (k:Nat) (ret:List Cl×Int→Option S) (f:List Cl) (a_from a_by:Int):Option S:=
 aa k (mK k [f]) fun r1=>
 ab (!(r1==0)) (
 ret (([]:List Cl),r1)) (
 aa k (qk k) fun r2=>
 aa k (u6 k f r2 a_from a_by) fun r3=>
 ab (!(r3.2==0)) (
  ret (([]:List Cl),r3.2)) (
  aa k (ff k r3.1) fun r4=>
  ret (r4.1,r4.2)))
noncomputable def it {S:Type} (k:Nat) (f:List Cl) (a_from a_by:Int) (ret:List Cl×Int→Option S):Option S:=Of k ret f a_from a_by
def Oy {S:Type} (k:Nat) (ret:Pan Int (List Cl)→Option S) (l_0 l_1:Int) (f:List Cl) (a_from:Int):Option S:=
 ab (l_1==0) (
 Option.bind (aq 1099511627776 0 f.length) fun x1=>
 ret (.ok f)) (
 ab (decide ((a_from:Int)≥24)) (
  Option.bind (aq 1099511627776 0 f.length) fun x2=>
  ret (.ok f)) (
  aa k (it k f a_from l_1) fun r3=>
  ab (!(r3.2==0)) (
  ret (.pan r3.2)) (
  ret (.ok r3.1))))
noncomputable def qn {S:Type} (k:Nat) (l_0 l_1:Int) (f:List Cl) (a_from:Int) (ret:Pan Int (List Cl)→Option S):Option S:=Oy k ret l_0 l_1 f a_from
abbrev eK (S:Type):=Int→Int→Tm→Int→Int→(Pan Int Tm→Option S)→Option S
def tK {S:Type} (hd:eK S) (k:Nat) (ret:Pan Int Tm→Option S) (r12:List Cl) (l_0 l_1:Int) (t:Tm) (b9_1:Int) (r2:List Cl) (b9_4:List Tm) (b9_5:List (Br Tm)) (x10:(Br Tm)) (more14 v d v90:Int) (rec2:(List (Br Tm))→Int→Int→Option S) (rec3:(List Tm)→Int→Option S) (b17_1:List Tm) (v103:Int):Option S:=
 ab (decide ((v103:Int)<(x10.kids.length:Int))) (
 Option.bind (ae x10.kids v103) fun x14=>
 hd l_0 l_1 (ac x14) v (IntKind.wrap .i64 (d+more14)) fun r16=>Pan.elim r16 (fun r16=>
  Option.bind (aq 1099511627776 b17_1.length [(ac r16)].length) fun x18=>
   rec3 (b17_1++[(ac r16)]) (IntKind.wrap .i64 (v103+1))) (fun e17=>
  ret (.pan e17))) (
 Option.bind (aq 1099511627776 b9_5.length [(Br.mk r12 b17_1)].length) fun x19=>
  rec2 (b9_5++[(Br.mk r12 b17_1)]) more14 (IntKind.wrap .i64 (v90+1)))
noncomputable def jZ {S:Type} (hd:eK S) (k:Nat) (ret:Pan Int Tm→Option S) (rec2:(List (Br Tm))→Int→Int→Option S) (r12:List Cl) (l_0 l_1:Int) (t:Tm) (b9_1:Int) (r2:List Cl) (b9_4:List Tm) (b9_5:List (Br Tm)) (x10:(Br Tm)) (more14 v d v90:Int):Nat→(List Tm)→Int→Option S
 |0=>fun _ _=> .none
 |m+1=>fun b17_1 v103=>tK hd k ret r12 l_0 l_1 t b9_1 r2 b9_4 b9_5 x10 more14 v d v90 rec2 (jZ hd k ret rec2 r12 l_0 l_1 t b9_1 r2 b9_4 b9_5 x10 more14 v d v90 m) b17_1 v103
def pr {S:Type} (hd:eK S) (k:Nat) (ret:Pan Int Tm→Option S) (l_0 l_1:Int) (t:Tm) (b9_1:Int) (r2:List Cl) (b9_4:List Tm) (v d:Int) (J3:(List Cl)→(List (Br Tm))→(Br Tm)→Int→Int→(List Tm)→Int→Option S) (rec2:(List (Br Tm))→Int→Int→Option S) (b9_5:List (Br Tm)) (more14 v90:Int):Option S:=
 ab (decide ((v90:Int)<(t.sys.length:Int))) (
 Option.bind (ae t.sys v90) fun x10=>
 aa k (qn k l_0 l_1 x10.face d) fun r12=>Pan.elim r12 (fun r12=>
   J3 r12 b9_5 x10 more14 v90 ([]:List Tm) 0) (fun e13=>
  ret (.pan e13))) (
 ret (.ok (Tm.mk t.kind b9_1 t.name r2 b9_4 b9_5)))
noncomputable def fX {S:Type} (hd:eK S) (k:Nat) (ret:Pan Int Tm→Option S) (l_0 l_1:Int) (t:Tm) (b9_1:Int) (r2:List Cl) (b9_4:List Tm) (v d:Int):Nat→(List (Br Tm))→Int→Int→Option S
 |0=>fun _ _ _=> .none
 |m+1=>fun b9_5 more14 v90=>pr hd k ret l_0 l_1 t b9_1 r2 b9_4 v d (fun r12 b9_5 x10 more14 v90 b17_1 v103=>jZ hd k ret (fX hd k ret l_0 l_1 t b9_1 r2 b9_4 v d m) r12 l_0 l_1 t b9_1 r2 b9_4 b9_5 x10 more14 v d v90 k b17_1 v103) (fX hd k ret l_0 l_1 t b9_1 r2 b9_4 v d m) b9_5 more14 v90
def pq {S:Type} (hd:eK S) (k:Nat) (ret:Pan Int Tm→Option S) (l_0 l_1:Int) (t:Tm) (b9_1:Int) (r2:List Cl) (v d:Int) (J2:(List Tm)→(List (Br Tm))→Int→Int→Option S) (rec1:(List Tm)→Int→Option S) (b9_4:List Tm) (v57:Int):Option S:=
 ab (decide ((v57:Int)<(t.kids.length:Int))) (
 Option.bind (ae t.kids v57) fun x4=>
 aa k (fj k t.kind v57) fun r5=>
 hd l_0 l_1 (ac x4) (IntKind.wrap .i64 (v+r5.1)) (IntKind.wrap .i64 (d+r5.2)) fun r7=>Pan.elim r7 (fun r7=>
  Option.bind (aq 1099511627776 b9_4.length [(ac r7)].length) fun x9=>
   rec1 (b9_4++[(ac r7)]) (IntKind.wrap .i64 (v57+1))) (fun e8=>
  ret (.pan e8))) (
 ab (t.kind==15) (
   J2 b9_4 ([]:List (Br Tm)) 1 0) (
   J2 b9_4 ([]:List (Br Tm)) 0 0))
noncomputable def iR {S:Type} (hd:eK S) (k:Nat) (ret:Pan Int Tm→Option S) (l_0 l_1:Int) (t:Tm) (b9_1:Int) (r2:List Cl) (v d:Int):Nat→(List Tm)→Int→Option S
 |0=>fun _ _=> .none
 |m+1=>fun b9_4 v57=>pq hd k ret l_0 l_1 t b9_1 r2 v d (fun b9_4 b9_5 more14 v90=>fX hd k ret l_0 l_1 t b9_1 r2 b9_4 v d k b9_5 more14 v90) (iR hd k ret l_0 l_1 t b9_1 r2 v d m) b9_4 v57
noncomputable def zx {S:Type} (hd:eK S) (k:Nat) (ret:Pan Int Tm→Option S) (l_0 l_1:Int) (t:Tm) (r2:List Cl) (v d:Int) (J1:Int→(List Tm)→Int→Option S) (b9_1:Int):Option S:=
 J1 b9_1 ([]:List Tm) 0
noncomputable def rg {S:Type} (hd:eK S) (k:Nat) (ret:Pan Int Tm→Option S) (l_0 l_1:Int) (t:Tm) (r2:List Cl) (v d:Int):Nat→Int→Option S
 |0=>fun _=> .none
 |_+1=>fun b9_1=>zx hd k ret l_0 l_1 t r2 v d (fun b9_1 b9_4 v57=>iR hd k ret l_0 l_1 t b9_1 r2 v d k b9_4 v57) b9_1
def D6 {S:Type} (hd:eK S) (k:Nat) (ret:Pan Int Tm→Option S) (J0:(List Cl)→Int→Option S) (l_0 l_1:Int) (t:Tm) (v d:Int):Option S:=
 aa k (qn k l_0 l_1 t.r d) fun r2=>Pan.elim r2 (fun r2=>
 ab (t.kind==1) (
  ab (decide ((t.n:Int)≥v)) (
  ab (decide ((t.n:Int)>(IntKind.wrap .i64 (1000000000-l_0)))) (
   ret (.pan 100)) (
     J0 r2 (IntKind.wrap .i64 (t.n+l_0)))) (
    J0 r2 t.n)) (
   J0 r2 t.n)) (fun e3=>
 ret (.pan e3))
noncomputable def cJ {S:Type}:Nat→Int→Int→Tm→Int→Int→(Pan Int Tm→Option S)→Option S
 |0=>fun _ _ _ _ _ _=> .none
 |k+1=>fun l_0 l_1 t v d ret=>D6 (cJ k) k ret (fun r2 b9_1=>rg (cJ k) k ret l_0 l_1 t r2 v d k b9_1) l_0 l_1 t v d
noncomputable def afq {S:Type} (k:Nat) (ret:Pan Int Tm→Option S) (c0 c1:Int) (c2:Tm):Option S:=
 cJ k c1 0 (ac c2) 0 0 fun r2=>Pan.elim r2 (fun r2=>
 cJ k 0 c0 (ac r2) 0 0 fun r5=>Pan.elim r5 (fun r5=>
  ret (.ok (ac r5))) (fun e6=>
  ret (.pan e6))) (fun e3=>
 ret (.pan e3))
noncomputable def FR {S:Type} (k:Nat) (c0 c1:Int) (c2:Tm) (ret:Pan Int Tm→Option S):Option S:=afq k ret c0 c1 c2
def Fo {S:Type} (k:Nat) (ret:Tm×Int→Option S) (c0 c1:Int) (c2:Tm) (numbers:List Int) (rec0:Int→Option S) (v19:Int):Option S:=
 ab (decide ((v19:Int)<(numbers.length:Int))) (
 Option.bind (ae numbers v19) fun x2=>
 ab (decide ((x2:Int)<0)) (
  ret ((Tm.mk 0 0 ByteArray.empty [] [] []),2)) (
   rec0 (IntKind.wrap .i64 (v19+1)))) (
 aa k (FR k c0 c1 (ac c2)) fun r4=>Pan.elim r4 (fun r4=>
  ret ((ac r4),0)) (fun e5=>
  ret ((Tm.mk 0 0 ByteArray.empty [] [] []),e5)))
noncomputable def By {S:Type} (k:Nat) (ret:Tm×Int→Option S) (c0 c1:Int) (c2:Tm) (numbers:List Int):Nat→Int→Option S
 |0=>fun _=> .none
 |m+1=>fun v19=>Fo k ret c0 c1 c2 numbers (By k ret c0 c1 c2 numbers m) v19
def Ox {S:Type} (k:Nat) (ret:Tm×Int→Option S) (J0:Int→Option S) (t:Tm) (numbers:List Int) (c0 c1:Int) (c2:Tm):Option S:=
 aa k (eo k (ac t)) fun r1=>
 ab (!(r1==0)) (
 ret ((Tm.mk 0 0 ByteArray.empty [] [] []),r1)) (
  J0 0)
noncomputable def FV {S:Type} (k:Nat) (t:Tm) (numbers:List Int) (c0 c1:Int) (c2:Tm) (ret:Tm×Int→Option S):Option S:=Ox k ret (fun v19=>By k ret c0 c1 c2 numbers k v19) t numbers c0 c1 c2
noncomputable def afp {S:Type} (k:Nat) (ret:Tm×Int→Option S) (t:Tm) (vars dims:Int):Option S:=
 aa k (FV k (ac t) [vars,dims,IntKind.wrap .i64 (1000000-vars)] dims vars (ac t)) fun r1=>
 ret ((ac r1.1),r1.2)
noncomputable def u_ {S:Type} (k:Nat) (t:Tm) (vars dims:Int) (ret:Tm×Int→Option S):Option S:=afp k ret t vars dims
def afk {S:Type} (k:Nat) (ret:Tm×Int→Option S) (t:Tm) (vars dims c0:Int):Option S:=
 aa k (fO k c0) fun r1=>
 ab (!r1) (
 ret ((Tm.mk 0 0 ByteArray.empty [] [] []),c0)) (
 aa k (u_ k (ac t) vars dims) fun r2=>
 aa k (jx k r2.2 c0) fun r3=>
 ret ((ac r2.1),r3))
noncomputable def p9 {S:Type} (k:Nat) (t:Tm) (vars dims c0:Int) (ret:Tm×Int→Option S):Option S:=afk k ret t vars dims c0
def afh {S:Type} (k:Nat) (ret:Tm×Int×Int→Option S) (t:Tm) (c0:Int):Option S:=
 aa k (fO k c0) fun r1=>
 ab (r1) (
 aa k (eo k (ac t)) fun r2=>
 aa k (jx k r2 c0) fun r3=>
 aa k (fO k r3) fun r4=>
 ab (!r4) (
  ret ((Tm.mk 0 0 ByteArray.empty [] [] []),r3,r3)) (
  ret ((ac t),0,r3))) (
 aa k (fO k c0) fun r5=>
 ab (!r5) (
  ret ((Tm.mk 0 0 ByteArray.empty [] [] []),c0,c0)) (
  ret ((ac t),0,c0)))
noncomputable def p8 {S:Type} (k:Nat) (t:Tm) (c0:Int) (ret:Tm×Int×Int→Option S):Option S:=afh k ret t c0
def afj {S:Type} (k:Nat) (ret:List Cl×Int→Option S) (f:List Cl) (c0:Int):Option S:=
 aa k (fO k c0) fun r1=>
 ab (!r1) (
 ret (([]:List Cl),c0)) (
 aa k (it k f 0 1) fun r2=>
 aa k (jx k r2.2 c0) fun r3=>
 ret (r2.1,r3))
noncomputable def FP {S:Type} (k:Nat) (f:List Cl) (c0:Int) (ret:List Cl×Int→Option S):Option S:=afj k ret f c0
noncomputable def Ov {S:Type} (k:Nat) (ret:Pan Int Tm→Option S) (c0:Int) (c1:Tm) (c2:Int):Option S:=
 cJ k 0 c0 (ac c1) 0 (if 24<c2 then 24 else c2) fun r2=>Pan.elim r2 (fun r2=>
 ret (.ok (ac r2))) (fun e3=>
 ret (.pan e3))
noncomputable def va {S:Type} (k:Nat) (c0:Int) (c1:Tm) (c2:Int) (ret:Pan Int Tm→Option S):Option S:=Ov k ret c0 c1 c2
def tJ {S:Type} (k:Nat) (ret:Tm×Int→Option S) (c0:Int) (c1:Tm) (c2:Int) (numbers:List Int) (rec0:Int→Option S) (v19:Int):Option S:=
 ab (decide ((v19:Int)<(numbers.length:Int))) (
 Option.bind (ae numbers v19) fun x2=>
 ab (decide ((x2:Int)<0)) (
  ret ((Tm.mk 0 0 ByteArray.empty [] [] []),2)) (
   rec0 (IntKind.wrap .i64 (v19+1)))) (
 aa k (va k c0 (ac c1) c2) fun r4=>Pan.elim r4 (fun r4=>
  ret ((ac r4),0)) (fun e5=>
  ret ((Tm.mk 0 0 ByteArray.empty [] [] []),e5)))
noncomputable def lw {S:Type} (k:Nat) (ret:Tm×Int→Option S) (c0:Int) (c1:Tm) (c2:Int) (numbers:List Int):Nat→Int→Option S
 |0=>fun _=> .none
 |m+1=>fun v19=>tJ k ret c0 c1 c2 numbers (lw k ret c0 c1 c2 numbers m) v19
def yd {S:Type} (k:Nat) (ret:Tm×Int→Option S) (J0:Int→Option S) (t:Tm) (numbers:List Int) (c0:Int) (c1:Tm) (c2:Int):Option S:=
 aa k (eo k (ac t)) fun r1=>
 ab (!(r1==0)) (
 ret ((Tm.mk 0 0 ByteArray.empty [] [] []),r1)) (
  J0 0)
noncomputable def vc {S:Type} (k:Nat) (t:Tm) (numbers:List Int) (c0:Int) (c1:Tm) (c2:Int) (ret:Tm×Int→Option S):Option S:=yd k ret (fun v19=>lw k ret c0 c1 c2 numbers k v19) t numbers c0 c1 c2
noncomputable def D5 {S:Type} (k:Nat) (ret:Tm×Int→Option S) (t:Tm) (a_from a_by:Int):Option S:=
 aa k (vc k (ac t) [a_from,a_by] a_by (ac t) a_from) fun r1=>
 ret ((ac r1.1),r1.2)
noncomputable def jz {S:Type} (k:Nat) (t:Tm) (a_from a_by:Int) (ret:Tm×Int→Option S):Option S:=D5 k ret t a_from a_by
def OC {S:Type} (k:Nat) (ret:Int→Option S) (s i:Int):Option S:=
 aa k (kZ k i) fun r1=>
 ab (!r1) (
 ret (aV .and .u32 s 16777215)) (
 Option.bind (bw (0≤(IntKind.wrap .u64 i))) fun x2=>
 ret (aV .or .u32 (aV .and .u32 s 16777215) (IntKind.wrap .u32 (1*2^min (Int.toNat (IntKind.wrap .u64 i)) 32))))
noncomputable def gz {S:Type} (k:Nat) (s i:Int) (ret:Int→Option S):Option S:=OC k ret s i
noncomputable def aft {S:Type} (k:Nat) (ret:Int→Option S) (a_x:Int):Option S:=
 Option.bind (ae (ByteArray.mk #[0,1,1,2,1,2,2,3,1,2,2,3,2,3,3,4,1,2,2,3,2,3,3,4,2,3,3,4,3,4,4,5,1,2,2,3,2,3,3,4,2,3,3,4,3,4,4,5,2,3,3,4,3,4,4,5,3,4,4,5,4,5,5,6,1,2,2,3,2,3,3,4,2,3,3,4,3,4,4,5,2,3,3,4,3,4,4,5,3,4,4,5,4,5,5,6,2,3,3,4,3,4,4,5,3,4,4,5,4,5,5,6,3,4,4,5,4,5,5,6,4,5,5,6,5,6,6,7,1,2,2,3,2,3,3,4,2,3,3,4,3,4,4,5,2,3,3,4,3,4,4,5,3,4,4,5,4,5,5,6,2,3,3,4,3,4,4,5,3,4,4,5,4,5,5,6,3,4,4,5,4,5,5,6,4,5,5,6,5,6,6,7,2,3,3,4,3,4,4,5,3,4,4,5,4,5,5,6,3,4,4,5,4,5,5,6,4,5,5,6,5,6,6,7,3,4,4,5,4,5,5,6,4,5,5,6,5,6,6,7,4,5,5,6,5,6,6,7,5,6,6,7,6,7,7,8]).data.toList (Int.fdiv a_x (2^min (Int.toNat 24) 32))) fun x1=>
 Option.bind (ae (ByteArray.mk #[0,1,1,2,1,2,2,3,1,2,2,3,2,3,3,4,1,2,2,3,2,3,3,4,2,3,3,4,3,4,4,5,1,2,2,3,2,3,3,4,2,3,3,4,3,4,4,5,2,3,3,4,3,4,4,5,3,4,4,5,4,5,5,6,1,2,2,3,2,3,3,4,2,3,3,4,3,4,4,5,2,3,3,4,3,4,4,5,3,4,4,5,4,5,5,6,2,3,3,4,3,4,4,5,3,4,4,5,4,5,5,6,3,4,4,5,4,5,5,6,4,5,5,6,5,6,6,7,1,2,2,3,2,3,3,4,2,3,3,4,3,4,4,5,2,3,3,4,3,4,4,5,3,4,4,5,4,5,5,6,2,3,3,4,3,4,4,5,3,4,4,5,4,5,5,6,3,4,4,5,4,5,5,6,4,5,5,6,5,6,6,7,2,3,3,4,3,4,4,5,3,4,4,5,4,5,5,6,3,4,4,5,4,5,5,6,4,5,5,6,5,6,6,7,3,4,4,5,4,5,5,6,4,5,5,6,5,6,6,7,4,5,5,6,5,6,6,7,5,6,6,7,6,7,7,8]).data.toList (aV .and .u32 (Int.fdiv a_x (2^min (Int.toNat 16) 32)) 255)) fun x2=>
 Option.bind (ae (ByteArray.mk #[0,1,1,2,1,2,2,3,1,2,2,3,2,3,3,4,1,2,2,3,2,3,3,4,2,3,3,4,3,4,4,5,1,2,2,3,2,3,3,4,2,3,3,4,3,4,4,5,2,3,3,4,3,4,4,5,3,4,4,5,4,5,5,6,1,2,2,3,2,3,3,4,2,3,3,4,3,4,4,5,2,3,3,4,3,4,4,5,3,4,4,5,4,5,5,6,2,3,3,4,3,4,4,5,3,4,4,5,4,5,5,6,3,4,4,5,4,5,5,6,4,5,5,6,5,6,6,7,1,2,2,3,2,3,3,4,2,3,3,4,3,4,4,5,2,3,3,4,3,4,4,5,3,4,4,5,4,5,5,6,2,3,3,4,3,4,4,5,3,4,4,5,4,5,5,6,3,4,4,5,4,5,5,6,4,5,5,6,5,6,6,7,2,3,3,4,3,4,4,5,3,4,4,5,4,5,5,6,3,4,4,5,4,5,5,6,4,5,5,6,5,6,6,7,3,4,4,5,4,5,5,6,4,5,5,6,5,6,6,7,4,5,5,6,5,6,6,7,5,6,6,7,6,7,7,8]).data.toList (aV .and .u32 (Int.fdiv a_x (2^min (Int.toNat 8) 32)) 255)) fun x3=>
 Option.bind (ae (ByteArray.mk #[0,1,1,2,1,2,2,3,1,2,2,3,2,3,3,4,1,2,2,3,2,3,3,4,2,3,3,4,3,4,4,5,1,2,2,3,2,3,3,4,2,3,3,4,3,4,4,5,2,3,3,4,3,4,4,5,3,4,4,5,4,5,5,6,1,2,2,3,2,3,3,4,2,3,3,4,3,4,4,5,2,3,3,4,3,4,4,5,3,4,4,5,4,5,5,6,2,3,3,4,3,4,4,5,3,4,4,5,4,5,5,6,3,4,4,5,4,5,5,6,4,5,5,6,5,6,6,7,1,2,2,3,2,3,3,4,2,3,3,4,3,4,4,5,2,3,3,4,3,4,4,5,3,4,4,5,4,5,5,6,2,3,3,4,3,4,4,5,3,4,4,5,4,5,5,6,3,4,4,5,4,5,5,6,4,5,5,6,5,6,6,7,2,3,3,4,3,4,4,5,3,4,4,5,4,5,5,6,3,4,4,5,4,5,5,6,4,5,5,6,5,6,6,7,3,4,4,5,4,5,5,6,4,5,5,6,5,6,6,7,4,5,5,6,5,6,6,7,5,6,6,7,6,7,7,8]).data.toList (aV .and .u32 a_x 255)) fun x4=>
 ret (IntKind.wrap .i64 (IntKind.wrap .u8 ((IntKind.wrap .u8 ((IntKind.wrap .u8 ((x1.toNat:Int)+(x2.toNat:Int)))+(x3.toNat:Int)))+(x4.toNat:Int))))
noncomputable def FW {S:Type} (k:Nat) (a_x:Int) (ret:Int→Option S):Option S:=aft k ret a_x
noncomputable def D7 {S:Type} (k:Nat) (ret:Int→Option S) (s:Int):Option S:=
 aa k (FW k (aV .and .u32 s 16777215)) fun r1=>
 ret r1
noncomputable def jA {S:Type} (k:Nat) (s:Int) (ret:Int→Option S):Option S:=D7 k ret s
noncomputable def NV {S:Type} (k:Nat) (ret:Bool→Option S) (i:Int):Option S:=
 aa k (gz k 0 i) fun r1=>
 aa k (jA k r1) fun r2=>
 ret (r2==1)
noncomputable def uO {S:Type} (k:Nat) (i:Int) (ret:Bool→Option S):Option S:=NV k ret i
def DN {S:Type} (k:Nat) (ret:Int→Option S) (t:Tm) (i:Int) (a_r:List Cl):Option S:=
 aa k (eo k (ac t)) fun r1=>
 ab (!(r1==0)) (
 ret r1) (
 aa k (uO k i) fun r2=>
 ab (!r2) (
  ret 2) (
  aa k (fP k a_r) fun r3=>
  ab (!r3) (
  ret 2) (
  ret 0)))
noncomputable def uS {S:Type} (k:Nat) (t:Tm) (i:Int) (a_r:List Cl) (ret:Int→Option S):Option S:=DN k ret t i a_r
noncomputable def N3 {S:Type} (k:Nat) (ret:Unit→Option S) (c0:Int) (c1:List Cl):Option S:=
 ret ()
noncomputable def Aa {S:Type} (k:Nat) (c0:Int) (c1:List Cl) (ret:Unit→Option S):Option S:=N3 k ret c0 c1
noncomputable def N4 {S:Type} (k:Nat) (ret:Unit→Option S) (c0:Int) (c1:List Cl):Option S:=
 ret ()
noncomputable def Ab {S:Type} (k:Nat) (c0:Int) (c1:List Cl) (ret:Unit→Option S):Option S:=N4 k ret c0 c1
noncomputable def NX {S:Type} (k:Nat) (ret:Int×List Cl→Option S) (i:Int) (a_r:List Cl):Option S:=
 aa k (Aa k i a_r) fun r1=>
 aa k (Ab k i a_r) fun r2=>
 ret (i,a_r)
noncomputable def z_ {S:Type} (k:Nat) (i:Int) (a_r:List Cl) (ret:Int×List Cl→Option S):Option S:=NX k ret i a_r
def OA {S:Type} (k:Nat) (ret:Bool→Option S) (s i:Int):Option S:=
 aa k (kZ k i) fun r1=>
 ab (r1) (
 Option.bind (bw (0≤(IntKind.wrap .u64 i))) fun x2=>
 ret ((aV .and .u32 (Int.fdiv s (2^min (Int.toNat (IntKind.wrap .u64 i)) 32)) 1)==1)) (
 ret false)
noncomputable def fQ {S:Type} (k:Nat) (s i:Int) (ret:Bool→Option S):Option S:=OA k ret s i
noncomputable def DE {S:Type} (k:Nat) (ret:List Cl→Option S) (f:List Cl):Option S:=
 Option.bind (aq 1099511627776 0 f.length) fun x1=>
 ret f
noncomputable def qc {S:Type} (k:Nat) (f:List Cl) (ret:List Cl→Option S):Option S:=DE k ret f
noncomputable def Oa {S:Type} (k:Nat) (ret:Bool→Option S) (i:Int):Option S:=
 aa k (gz k 0 i) fun r1=>
 aa k (jA k r1) fun r2=>
 ret (r2==1)
noncomputable def uV {S:Type} (k:Nat) (i:Int) (ret:Bool→Option S):Option S:=Oa k ret i
noncomputable def N_ {S:Type} (k:Nat) (ret:Cl×Bool→Option S) (c:Cl):Option S:=
 aa k (p_ k c) fun r1=>
 ret (c,!r1)
noncomputable def qj {S:Type} (k:Nat) (c:Cl) (ret:Cl×Bool→Option S):Option S:=N_ k ret c
def tx {S:Type} (k:Nat) (ret:List Cl→Option S) (l:List Cl) (rec0:Int→(List Cl)→Option S) (v12:Int) (out5:List Cl):Option S:=
 ab (decide ((v12:Int)<(l.length:Int))) (
 Option.bind (ae l v12) fun x1=>
 aa k (qj k x1) fun r2=>
 ab (r2.2) (
  Option.bind (aq 1099511627776 out5.length [r2.1].length) fun x3=>
   rec0 (IntKind.wrap .i64 (v12+1)) (out5++[r2.1])) (
   rec0 (IntKind.wrap .i64 (v12+1)) out5)) (
 ret out5)
noncomputable def nx {S:Type} (k:Nat) (ret:List Cl→Option S) (l:List Cl):Nat→Int→(List Cl)→Option S
 |0=>fun _ _=> .none
 |m+1=>fun v12 out5=>tx k ret l (nx k ret l m) v12 out5
noncomputable def DQ {S:Type} (k:Nat) (ret:List Cl→Option S) (J0:Int→(List Cl)→Option S) (l:List Cl):Option S:=
 J0 0 ([]:List Cl)
noncomputable def uY {S:Type} (k:Nat) (l:List Cl) (ret:List Cl→Option S):Option S:=DQ k ret (fun v12 out5=>nx k ret l k v12 out5) l
def N7 {S:Type} (k:Nat) (ret:List Cl×Int→Option S) (f:List Cl):Option S:=
 aa k (fP k f) fun r1=>
 ab (!r1) (
 ret (([]:List Cl),2)) (
 aa k (uY k f) fun r2=>
 aa k (ff k r2) fun r3=>
 ret (r3.1,r3.2))
noncomputable def qi {S:Type} (k:Nat) (f:List Cl) (ret:List Cl×Int→Option S):Option S:=N7 k ret f
noncomputable def Od {S:Type} (k:Nat) (ret:Cl×Bool→Option S) (b c0:Cl):Option S:=
 aa k (mD k c0 b) fun r1=>
 aa k (qj k r1) fun r2=>
 ret (r2.1,r2.2)
noncomputable def uZ {S:Type} (k:Nat) (b c0:Cl) (ret:Cl×Bool→Option S):Option S:=Od k ret b c0
def tw {S:Type} (k:Nat) (ret:List Cl→Option S) (c0:Cl) (l:List Cl) (rec0:Int→(List Cl)→Option S) (v12:Int) (out5:List Cl):Option S:=
 ab (decide ((v12:Int)<(l.length:Int))) (
 Option.bind (ae l v12) fun x1=>
 aa k (uZ k x1 c0) fun r2=>
 ab (r2.2) (
  Option.bind (aq 1099511627776 out5.length [r2.1].length) fun x3=>
   rec0 (IntKind.wrap .i64 (v12+1)) (out5++[r2.1])) (
   rec0 (IntKind.wrap .i64 (v12+1)) out5)) (
 ret out5)
noncomputable def nw {S:Type} (k:Nat) (ret:List Cl→Option S) (c0:Cl) (l:List Cl):Nat→Int→(List Cl)→Option S
 |0=>fun _ _=> .none
 |m+1=>fun v12 out5=>tw k ret c0 l (nw k ret c0 l m) v12 out5
noncomputable def DP {S:Type} (k:Nat) (ret:List Cl→Option S) (J0:Int→(List Cl)→Option S) (l:List Cl) (c0:Cl):Option S:=
 J0 0 ([]:List Cl)
noncomputable def uX {S:Type} (k:Nat) (l:List Cl) (c0:Cl) (ret:List Cl→Option S):Option S:=DP k ret (fun v12 out5=>nw k ret c0 l k v12 out5) l c0
def tz {S:Type} (k:Nat) (ret:List Cl×Int→Option S) (g f:List Cl) (rec0:Int→(List Cl)→Option S) (v11:Int) (out6:List Cl):Option S:=
 ab (decide ((v11:Int)<(f.length:Int))) (
 Option.bind (ae f v11) fun x1=>
 aa k (uX k g x1) fun r2=>
 Option.bind (aq 1099511627776 out6.length r2.length) fun x3=>
  rec0 (IntKind.wrap .i64 (v11+1)) (out6++r2)) (
 aa k (ff k out6) fun r4=>
 ret (r4.1,r4.2))
noncomputable def ny {S:Type} (k:Nat) (ret:List Cl×Int→Option S) (g f:List Cl):Nat→Int→(List Cl)→Option S
 |0=>fun _ _=> .none
 |m+1=>fun v11 out6=>tz k ret g f (ny k ret g f m) v11 out6
noncomputable def DR {S:Type} (k:Nat) (ret:List Cl×Int→Option S) (J0:Int→(List Cl)→Option S) (f g:List Cl):Option S:=
 J0 0 ([]:List Cl)
noncomputable def mG {S:Type} (k:Nat) (f g:List Cl) (ret:List Cl×Int→Option S):Option S:=DR k ret (fun v11 out6=>ny k ret g f k v11 out6) f g
noncomputable def Oc {S:Type} (k:Nat) (ret:List Cl×Int→Option S) (f g:List Cl):Option S:=
 Option.bind (aq 1099511627776 ([]:List Cl).length f.length) fun x1=>
 Option.bind (aq 1099511627776 (([]:List Cl)++f).length g.length) fun x2=>
 aa k (ff k ((([]:List Cl)++f)++g)) fun r3=>
 ret (r3.1,r3.2)
noncomputable def uW {S:Type} (k:Nat) (f g:List Cl) (ret:List Cl×Int→Option S):Option S:=Oc k ret f g
noncomputable def DT {S:Type} (k:Nat) (ret:List Cl→Option S):Option S:=
 ret [(Cl.mk 0 0)]
noncomputable def mI {S:Type} (k:Nat) (ret:List Cl→Option S):Option S:=DT k ret
def tG {S:Type} (k:Nat) (ret:List Cl×Int→Option S) (r5:List Int) (rec1:Int→(List Cl)→Option S) (v28:Int) (out4':List Cl):Option S:=
 ab (decide ((v28:Int)<(r5.length:Int))) (
 Option.bind (ae r5 v28) fun x6=>
 aa k (gz k 0 x6) fun r7=>
 Option.bind (aq 1099511627776 out4'.length [(Cl.mk r7 0)].length) fun x8=>
  rec1 (IntKind.wrap .i64 (v28+1)) (out4'++[(Cl.mk r7 0)])) (
 aa k (ff k out4') fun r9=>
 ret (r9.1,r9.2))
noncomputable def lu {S:Type} (k:Nat) (ret:List Cl×Int→Option S) (r5:List Int):Nat→Int→(List Cl)→Option S
 |0=>fun _ _=> .none
 |m+1=>fun v28 out4'=>tG k ret r5 (lu k ret r5 m) v28 out4'
def po {S:Type} (k:Nat) (ret:List Cl×Int→Option S) (c:Cl) (r1:List Int) (J1:(List Int)→Int→(List Cl)→Option S) (rec0:Int→(List Cl)→Option S) (v13:Int) (out4:List Cl):Option S:=
 ab (decide ((v13:Int)<(r1.length:Int))) (
 Option.bind (ae r1 v13) fun x2=>
 aa k (gz k 0 x2) fun r3=>
 Option.bind (aq 1099511627776 out4.length [(Cl.mk 0 r3)].length) fun x4=>
  rec0 (IntKind.wrap .i64 (v13+1)) (out4++[(Cl.mk 0 r3)])) (
 sh c.neg fun r5=>
  J1 r5 0 out4)
noncomputable def nD {S:Type} (k:Nat) (ret:List Cl×Int→Option S) (c:Cl) (r1:List Int):Nat→Int→(List Cl)→Option S
 |0=>fun _ _=> .none
 |m+1=>fun v13 out4=>po k ret c r1 (fun r5 v28 out4'=>lu k ret r5 k v28 out4') (nD k ret c r1 m) v13 out4
noncomputable def DZ {S:Type} (k:Nat) (ret:List Cl×Int→Option S) (J0:(List Int)→Int→(List Cl)→Option S) (c:Cl):Option S:=
 sh c.pos fun r1=>
 J0 r1 0 ([]:List Cl)
noncomputable def u9 {S:Type} (k:Nat) (c:Cl) (ret:List Cl×Int→Option S):Option S:=DZ k ret (fun r1 v13 out4=>nD k ret c r1 k v13 out4) c
def tF {S:Type} (k:Nat) (ret:List Cl×Int→Option S) (x1:Cl) (g f:List Cl) (v13:Int) (rec0:Int→(List Cl)→Option S) (rec1:Int→(List Cl)→Option S) (v19:Int) (out6':List Cl):Option S:=
 ab (decide ((v19:Int)<(g.length:Int))) (
 Option.bind (ae g v19) fun x2=>
 aa k (mD k x1 x2) fun r3=>
 Option.bind (aq 1099511627776 out6'.length [r3].length) fun x4=>
  rec1 (IntKind.wrap .i64 (v19+1)) (out6'++[r3])) (
  rec0 (IntKind.wrap .i64 (v13+1)) out6')
noncomputable def lr {S:Type} (k:Nat) (ret:List Cl×Int→Option S) (rec0:Int→(List Cl)→Option S) (x1:Cl) (g f:List Cl) (v13:Int):Nat→Int→(List Cl)→Option S
 |0=>fun _ _=> .none
 |m+1=>fun v19 out6'=>tF k ret x1 g f v13 rec0 (lr k ret rec0 x1 g f v13 m) v19 out6'
def pn {S:Type} (k:Nat) (ret:List Cl×Int→Option S) (g f:List Cl) (J1:Cl→Int→Int→(List Cl)→Option S) (rec0:Int→(List Cl)→Option S) (v13:Int) (out6:List Cl):Option S:=
 ab (decide ((v13:Int)<(f.length:Int))) (
 Option.bind (ae f v13) fun x1=>
  J1 x1 v13 0 out6) (
 aa k (ff k out6) fun r5=>
 ret (r5.1,r5.2))
noncomputable def jY {S:Type} (k:Nat) (ret:List Cl×Int→Option S) (g f:List Cl):Nat→Int→(List Cl)→Option S
 |0=>fun _ _=> .none
 |m+1=>fun v13 out6=>pn k ret g f (fun x1 v13 v19 out6'=>lr k ret (jY k ret g f m) x1 g f v13 k v19 out6') (jY k ret g f m) v13 out6
noncomputable def DY {S:Type} (k:Nat) (ret:List Cl×Int→Option S) (J0:Int→(List Cl)→Option S) (f g:List Cl):Option S:=
 J0 0 ([]:List Cl)
noncomputable def iw {S:Type} (k:Nat) (f g:List Cl) (ret:List Cl×Int→Option S):Option S:=DY k ret (fun v13 out6=>jY k ret g f k v13 out6) f g
def On {S:Type} (k:Nat) (ret:List Cl×Int→Option S) (a_have:List Cl) (c:Cl):Option S:=
 aa k (u9 k c) fun r1=>
 ab (!(r1.2==0)) (
 ret (([]:List Cl),r1.2)) (
 aa k (iw k a_have r1.1) fun r2=>
 ret (r2.1,r2.2))
noncomputable def u7 {S:Type} (k:Nat) (a_have:List Cl) (c:Cl) (ret:List Cl×Int→Option S):Option S:=On k ret a_have c
def tC {S:Type} (k:Nat) (ret:List Cl×Int→Option S) (l:List Cl) (rec0:(List Cl)→Int→Option S) (v1:List Cl) (v15:Int):Option S:=
 ab (decide ((v15:Int)<(l.length:Int))) (
 Option.bind (ae l v15) fun x1=>
 aa k (u7 k v1 x1) fun r2=>
 ab (!(r2.2==0)) (
  ret (([]:List Cl),r2.2)) (
   rec0 r2.1 (IntKind.wrap .i64 (v15+1)))) (
 ret (v1,0))
noncomputable def nB {S:Type} (k:Nat) (ret:List Cl×Int→Option S) (l:List Cl):Nat→(List Cl)→Int→Option S
 |0=>fun _ _=> .none
 |m+1=>fun v1 v15=>tC k ret l (nB k ret l m) v1 v15
noncomputable def DW {S:Type} (k:Nat) (ret:List Cl×Int→Option S) (J0:(List Cl)→Int→Option S) (l a_from:List Cl):Option S:=
 J0 a_from 0
noncomputable def Ai {S:Type} (k:Nat) (l a_from:List Cl) (ret:List Cl×Int→Option S):Option S:=DW k ret (fun v1 v15=>nB k ret l k v1 v15) l a_from
noncomputable def Om {S:Type} (k:Nat) (ret:List Cl×Int→Option S) (f:List Cl):Option S:=
 aa k (mI k) fun r1=>
 aa k (Ai k f r1) fun r2=>
 ret (r2.1,r2.2)
noncomputable def mJ {S:Type} (k:Nat) (f:List Cl) (ret:List Cl×Int→Option S):Option S:=Om k ret f
def Oh {S:Type} (k:Nat) (ret:List Cl×Int→Option S) (f:List Cl):Option S:=
 aa k (mK k [f]) fun r1=>
 ab (!(r1==0)) (
 ret (([]:List Cl),r1)) (
 aa k (mJ k f) fun r2=>
 ret (r2.1,r2.2))
noncomputable def u3 {S:Type} (k:Nat) (f:List Cl) (ret:List Cl×Int→Option S):Option S:=Oh k ret f
def N8 {S:Type} (k:Nat) (ret:List Cl×Int→Option S) (f:List Cl):Option S:=
 aa k (u3 k f) fun r1=>
 ab (!(r1.2==0)) (
 ret (([]:List Cl),r1.2)) (
 aa k (qi k r1.1) fun r2=>
 ret (r2.1,r2.2))
noncomputable def uT {S:Type} (k:Nat) (f:List Cl) (ret:List Cl×Int→Option S):Option S:=N8 k ret f
def tv {S:Type} (k:Nat) (ret:List Cl×Int→Option S) (i:Int) (a_r f:List Cl) (v29:Int) (v8:List Cl) (rec0:Int→(List Cl)→Option S) (g11:List Cl) (v13:Int):Option S:=
 ab (v13==0) (
 aa k (uW k v8 g11) fun r10=>
 ab (!(r10.2==0)) (
  ret (([]:List Cl),r10.2)) (
   rec0 (IntKind.wrap .i64 (v29+1)) r10.1)) (
 ab (!(v13==0)) (
  ret (([]:List Cl),v13)) (
   rec0 (IntKind.wrap .i64 (v29+1)) v8))
noncomputable def nu {S:Type} (k:Nat) (ret:List Cl×Int→Option S) (rec0:Int→(List Cl)→Option S) (i:Int) (a_r f:List Cl) (v29:Int) (v8:List Cl):Nat→(List Cl)→Int→Option S
 |0=>fun _ _=> .none
 |_+1=>fun g11 v13=>tv k ret i a_r f v29 v8 rec0 g11 v13
def pm {S:Type} (k:Nat) (ret:List Cl×Int→Option S) (i:Int) (a_r f:List Cl) (J1:Int→(List Cl)→(List Cl)→Int→Option S) (rec0:Int→(List Cl)→Option S) (v29:Int) (v8:List Cl):Option S:=
 ab (decide ((v29:Int)<(f.length:Int))) (
 Option.bind (ae f v29) fun x4=>
 aa k (iy k x4.pos i) fun r5=>
 aa k (iy k x4.neg i) fun r6=>
 aa k (fQ k x4.pos i) fun r7=>
 ab (r7) (
  aa k (qi k a_r) fun r8=>
  ab (r8.2==0) (
  aa k (mG k [(Cl.mk r5 r6)] r8.1) fun r9=>
    J1 v29 v8 r9.1 r9.2) (
    J1 v29 v8 [(Cl.mk r5 r6)] r8.2)) (
  aa k (fQ k x4.neg i) fun r11=>
  ab (r11) (
  aa k (uT k a_r) fun r12=>
  ab (r12.2==0) (
   aa k (mG k [(Cl.mk r5 r6)] r12.1) fun r13=>
     J1 v29 v8 r13.1 r13.2) (
     J1 v29 v8 [(Cl.mk r5 r6)] r12.2)) (
    J1 v29 v8 [(Cl.mk r5 r6)] 0))) (
 ret (v8,0))
noncomputable def jX {S:Type} (k:Nat) (ret:List Cl×Int→Option S) (i:Int) (a_r f:List Cl):Nat→Int→(List Cl)→Option S
 |0=>fun _ _=> .none
 |m+1=>fun v29 v8=>pm k ret i a_r f (fun v29 v8 g11 v13=>nu k ret (jX k ret i a_r f m) i a_r f v29 v8 k g11 v13) (jX k ret i a_r f m) v29 v8
def DO {S:Type} (k:Nat) (ret:List Cl×Int→Option S) (J0:Int→(List Cl)→Option S) (f:List Cl) (i:Int) (a_r:List Cl):Option S:=
 aa k (mF k f) fun r1=>
 ab (!r1) (
 ret (([]:List Cl),2)) (
 aa k (uV k i) fun r2=>
 ab (!r2) (
  ret (([]:List Cl),2)) (
  aa k (fP k a_r) fun r3=>
  ab (!r3) (
  ret (([]:List Cl),2)) (
    J0 0 [])))
noncomputable def uU {S:Type} (k:Nat) (f:List Cl) (i:Int) (a_r:List Cl) (ret:List Cl×Int→Option S):Option S:=DO k ret (fun v29 v8=>jX k ret i a_r f k v29 v8) f i a_r
def NZ {S:Type} (k:Nat) (ret:List Cl×Int→Option S) (f:List Cl) (depth c0:Int) (c1:List Cl):Option S:=
 aa k (mH k f) fun r1=>
 aa k (fQ k r1 (IntKind.wrap .i64 (c0+depth))) fun r2=>
 ab (!r2) (
 aa k (qc k f) fun r3=>
 ret (r3,0)) (
 aa k (it k c1 0 depth) fun r4=>
 ab (!(r4.2==0)) (
  ret (([]:List Cl),r4.2)) (
  aa k (uU k f (IntKind.wrap .i64 (c0+depth)) r4.1) fun r5=>
  ret (r5.1,r5.2)))
noncomputable def qe {S:Type} (k:Nat) (f:List Cl) (depth c0:Int) (c1:List Cl) (ret:List Cl×Int→Option S):Option S:=NZ k ret f depth c0 c1
def Oe {S:Type} (k:Nat) (ret:List Cl×Int→Option S) (i:Int):Option S:=
 aa k (gz k 0 i) fun r1=>
 aa k (jA k r1) fun r2=>
 ab (r2==0) (
 ret (([]:List Cl),2)) (
 aa k (gz k 0 i) fun r3=>
 ret ([(Cl.mk r3 0)],0))
noncomputable def u1 {S:Type} (k:Nat) (i:Int) (ret:List Cl×Int→Option S):Option S:=Oe k ret i
noncomputable def Ol {S:Type} (k:Nat) (ret:List Cl×Int→Option S) (f g:List Cl):Option S:=
 Option.bind (aq 1099511627776 ([]:List Cl).length f.length) fun x1=>
 Option.bind (aq 1099511627776 (([]:List Cl)++f).length g.length) fun x2=>
 aa k (ff k ((([]:List Cl)++f)++g)) fun r3=>
 ret (r3.1,r3.2)
noncomputable def kY {S:Type} (k:Nat) (f g:List Cl) (ret:List Cl×Int→Option S):Option S:=Ol k ret f g
def Oj {S:Type} (k:Nat) (ret:List Cl×Int→Option S) (a_have:List Cl) (c:Cl) (c0:Int) (c1:List Cl):Option S:=
 aa k (iy k c.pos c0) fun r1=>
 aa k (iy k c.neg c0) fun r2=>
 aa k (fQ k c.pos c0) fun r3=>
 ab (r3) (
 aa k (iw k [(Cl.mk r1 r2)] c1) fun r4=>
 ab (!(r4.2==0)) (
  ret (([]:List Cl),r4.2)) (
  aa k (fQ k c.neg c0) fun r5=>
  ab (r5) (
  aa k (mJ k c1) fun r6=>
  ab (!(r6.2==0)) (
   ret (([]:List Cl),r6.2)) (
   aa k (iw k r4.1 r6.1) fun r7=>
   ab (!(r7.2==0)) (
   ret (([]:List Cl),r7.2)) (
   aa k (kY k a_have r7.1) fun r8=>
   ret (r8.1,r8.2)))) (
  aa k (kY k a_have r4.1) fun r9=>
  ret (r9.1,r9.2)))) (
 aa k (fQ k c.neg c0) fun r10=>
 ab (r10) (
  aa k (mJ k c1) fun r11=>
  ab (!(r11.2==0)) (
  ret (([]:List Cl),r11.2)) (
  aa k (iw k [(Cl.mk r1 r2)] r11.1) fun r12=>
  ab (!(r12.2==0)) (
   ret (([]:List Cl),r12.2)) (
   aa k (kY k a_have r12.1) fun r13=>
   ret (r13.1,r13.2)))) (
  aa k (kY k a_have [(Cl.mk r1 r2)]) fun r14=>
  ret (r14.1,r14.2)))
noncomputable def u5 {S:Type} (k:Nat) (a_have:List Cl) (c:Cl) (c0:Int) (c1:List Cl) (ret:List Cl×Int→Option S):Option S:=Oj k ret a_have c c0 c1
def tB {S:Type} (k:Nat) (ret:List Cl×Int→Option S) (c0:Int) (c1 l:List Cl) (rec0:(List Cl)→Int→Option S) (v1:List Cl) (v15:Int):Option S:=
 ab (decide ((v15:Int)<(l.length:Int))) (
 Option.bind (ae l v15) fun x1=>
 aa k (u5 k v1 x1 c0 c1) fun r2=>
 ab (!(r2.2==0)) (
  ret (([]:List Cl),r2.2)) (
   rec0 r2.1 (IntKind.wrap .i64 (v15+1)))) (
 ret (v1,0))
noncomputable def nA {S:Type} (k:Nat) (ret:List Cl×Int→Option S) (c0:Int) (c1 l:List Cl):Nat→(List Cl)→Int→Option S
 |0=>fun _ _=> .none
 |m+1=>fun v1 v15=>tB k ret c0 c1 l (nA k ret c0 c1 l m) v1 v15
noncomputable def DV {S:Type} (k:Nat) (ret:List Cl×Int→Option S) (J0:(List Cl)→Int→Option S) (l a_from:List Cl) (c0:Int) (c1:List Cl):Option S:=
 J0 a_from 0
noncomputable def Ah {S:Type} (k:Nat) (l a_from:List Cl) (c0:Int) (c1:List Cl) (ret:List Cl×Int→Option S):Option S:=DV k ret (fun v1 v15=>nA k ret c0 c1 l k v1 v15) l a_from c0 c1
def Oi {S:Type} (k:Nat) (ret:List Cl×Int→Option S) (f:List Cl) (i:Int) (a_r:List Cl):Option S:=
 aa k (mK k [f,a_r]) fun r1=>
 ab (!(r1==0)) (
 ret (([]:List Cl),r1)) (
 aa k (u1 k i) fun r2=>
 ab (!(r2.2==0)) (
  ret (([]:List Cl),r2.2)) (
  aa k (qk k) fun r3=>
  aa k (Ah k f r3 i a_r) fun r4=>
  ret (r4.1,r4.2)))
noncomputable def u4 {S:Type} (k:Nat) (f:List Cl) (i:Int) (a_r:List Cl) (ret:List Cl×Int→Option S):Option S:=Oi k ret f i a_r
def NY {S:Type} (k:Nat) (ret:List Cl×Int→Option S) (f:List Cl) (depth c0:Int) (c1:List Cl):Option S:=
 aa k (mH k f) fun r1=>
 aa k (fQ k r1 (IntKind.wrap .i64 (c0+depth))) fun r2=>
 ab (!r2) (
 aa k (qc k f) fun r3=>
 ret (r3,0)) (
 aa k (it k c1 0 depth) fun r4=>
 ab (!(r4.2==0)) (
  ret (([]:List Cl),r4.2)) (
  aa k (u4 k f (IntKind.wrap .i64 (c0+depth)) r4.1) fun r5=>
  ret (r5.1,r5.2)))
noncomputable def uP {S:Type} (k:Nat) (f:List Cl) (depth c0:Int) (c1:List Cl) (ret:List Cl×Int→Option S):Option S:=NY k ret f depth c0 c1
def N5 {S:Type} (k:Nat) (ret:List Cl×Int→Option S) (t:Tm) (depth c0:Int) (c1:List Cl):Option S:=
 ab (t.kind==14) (
 aa k (qe k t.r depth c0 c1) fun r1=>
 ret (r1.1,r1.2)) (
 aa k (uP k t.r depth c0 c1) fun r2=>
 ret (r2.1,r2.2))
noncomputable def uQ {S:Type} (k:Nat) (t:Tm) (depth c0:Int) (c1:List Cl) (ret:List Cl×Int→Option S):Option S:=N5 k ret t depth c0 c1
noncomputable def DJ {S:Type} (k:Nat) (ret:Int→Option S) (i:Int) (c0:Tm):Option S:=
 aa k (fj k c0.kind i) fun r1=>
 ret r1.2
noncomputable def qf {S:Type} (k:Nat) (i:Int) (c0:Tm) (ret:Int→Option S):Option S:=DJ k ret i c0
noncomputable def DK {S:Type} (k:Nat) (ret:Int→Option S) (p c0:Int):Option S:=
 ret c0
noncomputable def qh {S:Type} (k:Nat) (p c0:Int) (ret:Int→Option S):Option S:=DK k ret p c0
abbrev cA (S:Type):=Tm→Int→Int→(List Cl)→(Tm×Int→Option S)→Option S
def tq {S:Type} (hd:cA S) (k:Nat) (ret:List Tm×Int→Option S) (c0:Int) (c1:List Cl) (c4:Int) (l:List Tm) (depth:Int) (rec0:(List Tm)→Int→Option S) (out10:List Tm) (v17:Int):Option S:=
 ab (decide ((v17:Int)<(l.length:Int))) (
 Option.bind (ae l v17) fun x1=>
 aa k (qh k v17 c4) fun r2=>
 hd (ac x1) (IntKind.wrap .i64 (depth+r2)) c0 c1 fun r3=>
 ab (!(r3.2==0)) (
  ret (([]:List Tm),r3.2)) (
  Option.bind (aq 1099511627776 out10.length [(ac r3.1)].length) fun x4=>
   rec0 (out10++[(ac r3.1)]) (IntKind.wrap .i64 (v17+1)))) (
 ret (out10,0))
noncomputable def jV {S:Type} (hd:cA S) (k:Nat) (ret:List Tm×Int→Option S) (c0:Int) (c1:List Cl) (c4:Int) (l:List Tm) (depth:Int):Nat→(List Tm)→Int→Option S
 |0=>fun _ _=> .none
 |m+1=>fun out10 v17=>tq hd k ret c0 c1 c4 l depth (jV hd k ret c0 c1 c4 l depth m) out10 v17
noncomputable def DH {S:Type} (hd:cA S) (k:Nat) (ret:List Tm×Int→Option S) (J0:(List Tm)→Int→Option S) (l:List Tm) (depth c0:Int) (c1:List Cl) (c4:Int):Option S:=
 J0 ([]:List Tm) 0
noncomputable def Ae {S:Type} (hd:cA S) (k:Nat) (l:List Tm) (depth c0:Int) (c1:List Cl) (c4:Int) (ret:List Tm×Int→Option S):Option S:=DH hd k ret (fun out10 v17=>jV hd k ret c0 c1 c4 l depth k out10 v17) l depth c0 c1 c4
def tr {S:Type} (hd:cA S) (k:Nat) (ret:List Tm×Int→Option S) (c0:Int) (c1:List Cl) (c4:Tm) (l:List Tm) (depth:Int) (rec0:(List Tm)→Int→Option S) (out10:List Tm) (v17:Int):Option S:=
 ab (decide ((v17:Int)<(l.length:Int))) (
 Option.bind (ae l v17) fun x1=>
 aa k (qf k v17 (ac c4)) fun r2=>
 hd (ac x1) (IntKind.wrap .i64 (depth+r2)) c0 c1 fun r3=>
 ab (!(r3.2==0)) (
  ret (([]:List Tm),r3.2)) (
  Option.bind (aq 1099511627776 out10.length [(ac r3.1)].length) fun x4=>
   rec0 (out10++[(ac r3.1)]) (IntKind.wrap .i64 (v17+1)))) (
 ret (out10,0))
noncomputable def jW {S:Type} (hd:cA S) (k:Nat) (ret:List Tm×Int→Option S) (c0:Int) (c1:List Cl) (c4:Tm) (l:List Tm) (depth:Int):Nat→(List Tm)→Int→Option S
 |0=>fun _ _=> .none
 |m+1=>fun out10 v17=>tr hd k ret c0 c1 c4 l depth (jW hd k ret c0 c1 c4 l depth m) out10 v17
noncomputable def DI {S:Type} (hd:cA S) (k:Nat) (ret:List Tm×Int→Option S) (J0:(List Tm)→Int→Option S) (l:List Tm) (depth c0:Int) (c1:List Cl) (c4:Tm):Option S:=
 J0 ([]:List Tm) 0
noncomputable def Af {S:Type} (hd:cA S) (k:Nat) (l:List Tm) (depth c0:Int) (c1:List Cl) (c4:Tm) (ret:List Tm×Int→Option S):Option S:=DI hd k ret (fun out10 v17=>jW hd k ret c0 c1 c4 l depth k out10 v17) l depth c0 c1 c4
def tt {S:Type} (hd:cA S) (k:Nat) (ret:Tm×Int→Option S) (c0:Int) (c1:List Cl) (t:Tm) (r1:List Cl×Int) (r2:List Tm×Int) (depth:Int) (rec0:Int→(List (Br Tm))→Int→Option S) (b10_0:Int) (b8_5:List (Br Tm)) (v55:Int):Option S:=
 ab (decide ((v55:Int)<(t.sys.length:Int))) (
 Option.bind (ae t.sys v55) fun x3=>
 aa k (qe k x3.face depth c0 c1) fun r4=>
 ab (!(r4.2==0)) (
  ret ((Tm.mk 0 0 ByteArray.empty [] [] []),r4.2)) (
  ab ((r4.1.length:Int)==0) (
    rec0 b10_0 b8_5 (IntKind.wrap .i64 (v55+1))) (
  aa k (Ae hd k x3.kids depth c0 c1 b10_0) fun r5=>
  ab (!(r5.2==0)) (
   ret ((Tm.mk 0 0 ByteArray.empty [] [] []),r5.2)) (
   Option.bind (aq 1099511627776 b8_5.length [(Br.mk r4.1 r5.1)].length) fun x6=>
     rec0 b10_0 (b8_5++[(Br.mk r4.1 r5.1)]) (IntKind.wrap .i64 (v55+1)))))) (
 ret ((Tm.mk t.kind t.n t.name r1.1 r2.1 b8_5),0))
noncomputable def eT {S:Type} (hd:cA S) (k:Nat) (ret:Tm×Int→Option S) (c0:Int) (c1:List Cl) (t:Tm) (r1:List Cl×Int) (r2:List Tm×Int) (depth:Int):Nat→Int→(List (Br Tm))→Int→Option S
 |0=>fun _ _ _=> .none
 |m+1=>fun b10_0 b8_5 v55=>tt hd k ret c0 c1 t r1 r2 depth (eT hd k ret c0 c1 t r1 r2 depth m) b10_0 b8_5 v55
def DL {S:Type} (hd:cA S) (k:Nat) (ret:Tm×Int→Option S) (J0:(List Cl×Int)→(List Tm×Int)→Int→(List (Br Tm))→Int→Option S) (t:Tm) (depth c0:Int) (c1:List Cl):Option S:=
 aa k (uQ k (ac t) depth c0 c1) fun r1=>
 ab (!(r1.2==0)) (
 ret ((Tm.mk 0 0 ByteArray.empty [] [] []),r1.2)) (
 aa k (Af hd k t.kids depth c0 c1 (ac t)) fun r2=>
 ab (!(r2.2==0)) (
  ret ((Tm.mk 0 0 ByteArray.empty [] [] []),r2.2)) (
  ab (t.kind==15) (
    J0 r1 r2 1 ([]:List (Br Tm)) 0) (
    J0 r1 r2 0 ([]:List (Br Tm)) 0)))
noncomputable def dA {S:Type}:Nat→Tm→Int→Int→(List Cl)→(Tm×Int→Option S)→Option S
 |0=>fun _ _ _ _ _=> .none
 |k+1=>fun t depth c0 c1 ret=>DL (dA k) k ret (fun r1 r2 b10_0 b8_5 v55=>eT (dA k) k ret c0 c1 t r1 r2 depth k b10_0 b8_5 v55) t depth c0 c1
noncomputable def NW {S:Type} (k:Nat) (ret:Int→Option S) (i:Int):Option S:=
 ret i
noncomputable def z8 {S:Type} (k:Nat) (i:Int) (ret:Int→Option S):Option S:=NW k ret i
def Oz {S:Type} (k:Nat) (ret:Int→Option S) (s i:Int):Option S:=
 aa k (kZ k i) fun r1=>
 ab (!r1) (
 ret (aV .and .u32 s 16777215)) (
 aa k (mO k i) fun r2=>
 Option.bind (bw (0≤(IntKind.wrap .u64 (IntKind.wrap .i64 (i+1))))) fun x3=>
 Option.bind (bw (0≤(IntKind.wrap .u64 i))) fun x4=>
 ret (aV .or .u32 (aV .and .u32 (aV .and .u32 s 16777215) r2) (IntKind.wrap .u32 ((Int.fdiv (aV .and .u32 s 16777215) (2^min (Int.toNat (IntKind.wrap .u64 (IntKind.wrap .i64 (i+1)))) 32))*2^min (Int.toNat (IntKind.wrap .u64 i)) 32))))
noncomputable def mL {S:Type} (k:Nat) (s i:Int) (ret:Int→Option S):Option S:=Oz k ret s i
def tl {S:Type} (k:Nat) (ret:List Cl×Int→Option S) (c0 depth:Int) (f:List Cl) (rec0:Int→(List Cl)→Option S) (v12:Int) (out7:List Cl):Option S:=
 ab (decide ((v12:Int)<(f.length:Int))) (
 Option.bind (ae f v12) fun x1=>
 aa k (mL k x1.pos (IntKind.wrap .i64 (c0+depth))) fun r2=>
 aa k (mL k x1.neg (IntKind.wrap .i64 (c0+depth))) fun r3=>
 Option.bind (aq 1099511627776 out7.length [(Cl.mk r2 r3)].length) fun x4=>
  rec0 (IntKind.wrap .i64 (v12+1)) (out7++[(Cl.mk r2 r3)])) (
 aa k (ff k out7) fun r5=>
 ret (r5.1,r5.2))
noncomputable def nr {S:Type} (k:Nat) (ret:List Cl×Int→Option S) (c0 depth:Int) (f:List Cl):Nat→Int→(List Cl)→Option S
 |0=>fun _ _=> .none
 |m+1=>fun v12 out7=>tl k ret c0 depth f (nr k ret c0 depth f m) v12 out7
noncomputable def DD {S:Type} (k:Nat) (ret:List Cl×Int→Option S) (J0:Int→(List Cl)→Option S) (f:List Cl) (depth c0:Int):Option S:=
 J0 0 ([]:List Cl)
noncomputable def mE {S:Type} (k:Nat) (f:List Cl) (depth c0:Int) (ret:List Cl×Int→Option S):Option S:=DD k ret (fun v12 out7=>nr k ret c0 depth f k v12 out7) f depth c0
def N6 {S:Type} (k:Nat) (ret:List Cl×Int→Option S) (t:Tm) (depth c0:Int):Option S:=
 ab (t.kind==14) (
 aa k (mE k t.r depth c0) fun r1=>
 ret (r1.1,r1.2)) (
 aa k (mE k t.r depth c0) fun r2=>
 ret (r2.1,r2.2))
noncomputable def uR {S:Type} (k:Nat) (t:Tm) (depth c0:Int) (ret:List Cl×Int→Option S):Option S:=N6 k ret t depth c0
abbrev cB (S:Type):=Tm→Int→Int→(Tm×Int→Option S)→Option S
def tn {S:Type} (hd:cB S) (k:Nat) (ret:List Tm×Int→Option S) (c0 c1:Int) (l:List Tm) (depth:Int) (rec0:(List Tm)→Int→Option S) (out10:List Tm) (v17:Int):Option S:=
 ab (decide ((v17:Int)<(l.length:Int))) (
 Option.bind (ae l v17) fun x1=>
 aa k (qh k v17 c1) fun r2=>
 hd (ac x1) (IntKind.wrap .i64 (depth+r2)) c0 fun r3=>
 ab (!(r3.2==0)) (
  ret (([]:List Tm),r3.2)) (
  Option.bind (aq 1099511627776 out10.length [(ac r3.1)].length) fun x4=>
   rec0 (out10++[(ac r3.1)]) (IntKind.wrap .i64 (v17+1)))) (
 ret (out10,0))
noncomputable def jT {S:Type} (hd:cB S) (k:Nat) (ret:List Tm×Int→Option S) (c0 c1:Int) (l:List Tm) (depth:Int):Nat→(List Tm)→Int→Option S
 |0=>fun _ _=> .none
 |m+1=>fun out10 v17=>tn hd k ret c0 c1 l depth (jT hd k ret c0 c1 l depth m) out10 v17
noncomputable def DF {S:Type} (hd:cB S) (k:Nat) (ret:List Tm×Int→Option S) (J0:(List Tm)→Int→Option S) (l:List Tm) (depth c0 c1:Int):Option S:=
 J0 ([]:List Tm) 0
noncomputable def Ac {S:Type} (hd:cB S) (k:Nat) (l:List Tm) (depth c0 c1:Int) (ret:List Tm×Int→Option S):Option S:=DF hd k ret (fun out10 v17=>jT hd k ret c0 c1 l depth k out10 v17) l depth c0 c1
def tp {S:Type} (hd:cB S) (k:Nat) (ret:List Tm×Int→Option S) (c0:Int) (c1:Tm) (l:List Tm) (depth:Int) (rec0:(List Tm)→Int→Option S) (out10:List Tm) (v17:Int):Option S:=
 ab (decide ((v17:Int)<(l.length:Int))) (
 Option.bind (ae l v17) fun x1=>
 aa k (qf k v17 (ac c1)) fun r2=>
 hd (ac x1) (IntKind.wrap .i64 (depth+r2)) c0 fun r3=>
 ab (!(r3.2==0)) (
  ret (([]:List Tm),r3.2)) (
  Option.bind (aq 1099511627776 out10.length [(ac r3.1)].length) fun x4=>
   rec0 (out10++[(ac r3.1)]) (IntKind.wrap .i64 (v17+1)))) (
 ret (out10,0))
noncomputable def jU {S:Type} (hd:cB S) (k:Nat) (ret:List Tm×Int→Option S) (c0:Int) (c1:Tm) (l:List Tm) (depth:Int):Nat→(List Tm)→Int→Option S
 |0=>fun _ _=> .none
 |m+1=>fun out10 v17=>tp hd k ret c0 c1 l depth (jU hd k ret c0 c1 l depth m) out10 v17
noncomputable def DG {S:Type} (hd:cB S) (k:Nat) (ret:List Tm×Int→Option S) (J0:(List Tm)→Int→Option S) (l:List Tm) (depth c0:Int) (c1:Tm):Option S:=
 J0 ([]:List Tm) 0
noncomputable def Ad {S:Type} (hd:cB S) (k:Nat) (l:List Tm) (depth c0:Int) (c1:Tm) (ret:List Tm×Int→Option S):Option S:=DG hd k ret (fun out10 v17=>jU hd k ret c0 c1 l depth k out10 v17) l depth c0 c1
def tu {S:Type} (hd:cB S) (k:Nat) (ret:Tm×Int→Option S) (c0:Int) (t:Tm) (r1:List Cl×Int) (r2:List Tm×Int) (depth:Int) (rec0:Int→(List (Br Tm))→Int→Option S) (b10_0:Int) (b8_5:List (Br Tm)) (v55:Int):Option S:=
 ab (decide ((v55:Int)<(t.sys.length:Int))) (
 Option.bind (ae t.sys v55) fun x3=>
 aa k (mE k x3.face depth c0) fun r4=>
 ab (!(r4.2==0)) (
  ret ((Tm.mk 0 0 ByteArray.empty [] [] []),r4.2)) (
  ab ((r4.1.length:Int)==0) (
    rec0 b10_0 b8_5 (IntKind.wrap .i64 (v55+1))) (
  aa k (Ac hd k x3.kids depth c0 b10_0) fun r5=>
  ab (!(r5.2==0)) (
   ret ((Tm.mk 0 0 ByteArray.empty [] [] []),r5.2)) (
   Option.bind (aq 1099511627776 b8_5.length [(Br.mk r4.1 r5.1)].length) fun x6=>
     rec0 b10_0 (b8_5++[(Br.mk r4.1 r5.1)]) (IntKind.wrap .i64 (v55+1)))))) (
 ret ((Tm.mk t.kind t.n t.name r1.1 r2.1 b8_5),0))
noncomputable def eU {S:Type} (hd:cB S) (k:Nat) (ret:Tm×Int→Option S) (c0:Int) (t:Tm) (r1:List Cl×Int) (r2:List Tm×Int) (depth:Int):Nat→Int→(List (Br Tm))→Int→Option S
 |0=>fun _ _ _=> .none
 |m+1=>fun b10_0 b8_5 v55=>tu hd k ret c0 t r1 r2 depth (eU hd k ret c0 t r1 r2 depth m) b10_0 b8_5 v55
def DM {S:Type} (hd:cB S) (k:Nat) (ret:Tm×Int→Option S) (J0:(List Cl×Int)→(List Tm×Int)→Int→(List (Br Tm))→Int→Option S) (t:Tm) (depth c0:Int):Option S:=
 aa k (uR k (ac t) depth c0) fun r1=>
 ab (!(r1.2==0)) (
 ret ((Tm.mk 0 0 ByteArray.empty [] [] []),r1.2)) (
 aa k (Ad hd k t.kids depth c0 (ac t)) fun r2=>
 ab (!(r2.2==0)) (
  ret ((Tm.mk 0 0 ByteArray.empty [] [] []),r2.2)) (
  ab (t.kind==15) (
    J0 r1 r2 1 ([]:List (Br Tm)) 0) (
    J0 r1 r2 0 ([]:List (Br Tm)) 0)))
noncomputable def dk {S:Type}:Nat→Tm→Int→Int→(Tm×Int→Option S)→Option S
 |0=>fun _ _ _ _=> .none
 |k+1=>fun t depth c0 ret=>DM (dk k) k ret (fun r1 r2 b10_0 b8_5 v55=>eU (dk k) k ret c0 t r1 r2 depth k b10_0 b8_5 v55) t depth c0
def DC {S:Type} (k:Nat) (ret:Tm×Int→Option S) (t:Tm) (i:Int) (a_r:List Cl):Option S:=
 aa k (uS k (ac t) i a_r) fun r1=>
 ab (!(r1==0)) (
 ret ((Tm.mk 0 0 ByteArray.empty [] [] []),r1)) (
 aa k (it k a_r i 1) fun r2=>
 ab (!(r2.2==0)) (
  ret ((Tm.mk 0 0 ByteArray.empty [] [] []),r2.2)) (
  aa k (z_ k i r2.1) fun r3=>
  dA k (ac t) 0 r3.1 r3.2 fun r4=>
  ab (!(r4.2==0)) (
  ret ((Tm.mk 0 0 ByteArray.empty [] [] []),r4.2)) (
  aa k (z8 k i) fun r5=>
  dk k (ac r4.1) 0 r5 fun r6=>
  ret ((ac r6.1),r6.2))))
noncomputable def jy {S:Type} (k:Nat) (t:Tm) (i:Int) (a_r:List Cl) (ret:Tm×Int→Option S):Option S:=DC k ret t i a_r
def afg {S:Type} (k:Nat) (ret:Tm×Int→Option S) (line:Tm) (a_r:List Cl) (c0:Int):Option S:=
 aa k (fO k c0) fun r1=>
 ab (!r1) (
 ret ((Tm.mk 0 0 ByteArray.empty [] [] []),c0)) (
 aa k (jz k (ac line) 1 2) fun r2=>
 aa k (jx k r2.2 c0) fun r3=>
 aa k (fO k r3) fun r4=>
 ab (!r4) (
  ret ((Tm.mk 0 0 ByteArray.empty [] [] []),r3)) (
  aa k (jy k (ac r2.1) 0 a_r) fun r5=>
  aa k (jx k r5.2 r3) fun r6=>
  ret ((ac r5.1),r6)))
noncomputable def z7 {S:Type} (k:Nat) (line:Tm) (a_r:List Cl) (c0:Int) (ret:Tm×Int→Option S):Option S:=afg k ret line a_r c0
def Fh {S:Type} (k:Nat) (ret:Tm×Int→Option S) (a:Tm) (r5:Int×Int×ByteArray×List Tm) (sys:List (Br Tm)) (rec0:Int→(List (Br Tm))→Int→Option S) (b19000_0:Int) (b9_5:List (Br Tm)) (v29:Int):Option S:=
 ab (decide ((v29:Int)<(sys.length:Int))) (
 Option.bind (ae sys v29) fun x6=>
 aa k (fO k b19000_0) fun r7=>
 ab (!r7) (
  aa k (p9 k (ac a) 0 2 b19000_0) fun r8=>
  Option.bind (aq 1099511627776 b9_5.length [(Br.mk [(Cl.mk 0 1)] [(ac r8.1)])].length) fun x9=>
  aa k (p8 k (Tm.mk r5.1 r5.2.1 r5.2.2.1 [] r5.2.2.2 (b9_5++[(Br.mk [(Cl.mk 0 1)] [(ac r8.1)])])) r8.2) fun r10=>
  ret ((ac r10.1),r10.2.1)) (
  aa k (FP k x6.face b19000_0) fun r11=>
  Option.bind (ae x6.kids 0) fun x12=>
  aa k (z7 k (ac x12) [(Cl.mk 3 0)] r11.2) fun r13=>
  Option.bind (aq 1099511627776 b9_5.length [(Br.mk r11.1 [(ac r13.1)])].length) fun x14=>
   rec0 r13.2 (b9_5++[(Br.mk r11.1 [(ac r13.1)])]) (IntKind.wrap .i64 (v29+1)))) (
 aa k (p9 k (ac a) 0 2 b19000_0) fun r15=>
 Option.bind (aq 1099511627776 b9_5.length [(Br.mk [(Cl.mk 0 1)] [(ac r15.1)])].length) fun x16=>
 aa k (p8 k (Tm.mk r5.1 r5.2.1 r5.2.2.1 [] r5.2.2.2 (b9_5++[(Br.mk [(Cl.mk 0 1)] [(ac r15.1)])])) r15.2) fun r17=>
 ret ((ac r17.1),r17.2.1))
noncomputable def Bu {S:Type} (k:Nat) (ret:Tm×Int→Option S) (a:Tm) (r5:Int×Int×ByteArray×List Tm) (sys:List (Br Tm)):Nat→Int→(List (Br Tm))→Int→Option S
 |0=>fun _ _ _=> .none
 |m+1=>fun b19000_0 b9_5 v29=>Fh k ret a r5 sys (Bu k ret a r5 sys m) b19000_0 b9_5 v29
noncomputable def NM {S:Type} (k:Nat) (ret:Tm×Int→Option S) (J0:(Int×Int×ByteArray×List Tm)→Int→(List (Br Tm))→Int→Option S) (t a:Tm) (sys:List (Br Tm)):Option S:=
 aa k (uJ k sys) fun r1=>
 aa k (z6 k [(ac t),(ac a),(Tm.mk r1.1 r1.2.1 r1.2.2.1 [] r1.2.2.2.1 r1.2.2.2.2)]) fun r2=>
 aa k (p9 k (ac t) 0 1 r2) fun r3=>
 aa k (p9 k (ac a) 0 1 r3.2) fun r4=>
 aa k (kX k 15 [(ac r3.1),(ac r4.1)]) fun r5=>
 J0 r5 r4.2 ([]:List (Br Tm)) 0
noncomputable def FN {S:Type} (k:Nat) (t a:Tm) (sys:List (Br Tm)) (ret:Tm×Int→Option S):Option S:=NM k ret (fun r5 b19000_0 b9_5 v29=>Bu k ret a r5 sys k b19000_0 b9_5 v29) t a sys
def OM {S:Type} (k:Nat) (ret:Tm×Int→Option S) (t:Tm) (a_e c0:Int):Option S:=
 ab (c0==0) (
 ab (!(a_e==0)) (
  ret ((Tm.mk 0 0 ByteArray.empty [] [] []),a_e)) (
  ret ((ac t),a_e))) (
 ab (!(c0==0)) (
  ret ((Tm.mk 0 0 ByteArray.empty [] [] []),c0)) (
  ret ((ac t),c0)))
noncomputable def eO {S:Type} (k:Nat) (t:Tm) (a_e c0:Int) (ret:Tm×Int→Option S):Option S:=OM k ret t a_e c0
def afw {S:Type} (k:Nat) (ret:Tm×Int→Option S) (t a:Tm) (sys:List (Br Tm)) (c0:Int):Option S:=
 aa k (dB k c0) fun r1=>
 ab (!r1) (
 ret ((Tm.mk 0 0 ByteArray.empty [] [] []),c0)) (
 aa k (FN k (ac t) (ac a) sys) fun r2=>
 aa k (eO k (ac r2.1) r2.2 c0) fun r3=>
 ret ((ac r3.1),r3.2))
noncomputable def FZ {S:Type} (k:Nat) (t a:Tm) (sys:List (Br Tm)) (c0:Int) (ret:Tm×Int→Option S):Option S:=afw k ret t a sys c0
noncomputable def afs {S:Type} (k:Nat) (ret:Pan Int Tm→Option S) (c0:Int) (c1:Tm) (c2:Int):Option S:=
 cJ k c0 0 (ac c1) (if 2000000000<c2 then 2000000000 else c2) 0 fun r2=>Pan.elim r2 (fun r2=>
 ret (.ok (ac r2))) (fun e3=>
 ret (.pan e3))
noncomputable def FT {S:Type} (k:Nat) (c0:Int) (c1:Tm) (c2:Int) (ret:Pan Int Tm→Option S):Option S:=afs k ret c0 c1 c2
def Fl {S:Type} (k:Nat) (ret:Tm×Int→Option S) (c0:Int) (c1:Tm) (c2:Int) (numbers:List Int) (rec0:Int→Option S) (v19:Int):Option S:=
 ab (decide ((v19:Int)<(numbers.length:Int))) (
 Option.bind (ae numbers v19) fun x2=>
 ab (decide ((x2:Int)<0)) (
  ret ((Tm.mk 0 0 ByteArray.empty [] [] []),2)) (
   rec0 (IntKind.wrap .i64 (v19+1)))) (
 aa k (FT k c0 (ac c1) c2) fun r4=>Pan.elim r4 (fun r4=>
  ret ((ac r4),0)) (fun e5=>
  ret ((Tm.mk 0 0 ByteArray.empty [] [] []),e5)))
noncomputable def Bx {S:Type} (k:Nat) (ret:Tm×Int→Option S) (c0:Int) (c1:Tm) (c2:Int) (numbers:List Int):Nat→Int→Option S
 |0=>fun _=> .none
 |m+1=>fun v19=>Fl k ret c0 c1 c2 numbers (Bx k ret c0 c1 c2 numbers m) v19
def Ow {S:Type} (k:Nat) (ret:Tm×Int→Option S) (J0:Int→Option S) (t:Tm) (numbers:List Int) (c0:Int) (c1:Tm) (c2:Int):Option S:=
 aa k (eo k (ac t)) fun r1=>
 ab (!(r1==0)) (
 ret ((Tm.mk 0 0 ByteArray.empty [] [] []),r1)) (
  J0 0)
noncomputable def FU {S:Type} (k:Nat) (t:Tm) (numbers:List Int) (c0:Int) (c1:Tm) (c2:Int) (ret:Tm×Int→Option S):Option S:=Ow k ret (fun v19=>Bx k ret c0 c1 c2 numbers k v19) t numbers c0 c1 c2
noncomputable def afr {S:Type} (k:Nat) (ret:Tm×Int→Option S) (t:Tm) (a_from a_by:Int):Option S:=
 aa k (FU k (ac t) [a_from,a_by,IntKind.wrap .i64 (1000000-a_by)] a_by (ac t) a_from) fun r1=>
 ret ((ac r1.1),r1.2)
noncomputable def FS {S:Type} (k:Nat) (t:Tm) (a_from a_by:Int) (ret:Tm×Int→Option S):Option S:=afr k ret t a_from a_by
def afu {S:Type} (k:Nat) (ret:Tm×Int→Option S) (t:Tm) (vars dims c0:Int):Option S:=
 aa k (dB k c0) fun r1=>
 ab (!r1) (
 ret ((Tm.mk 0 0 ByteArray.empty [] [] []),c0)) (
 aa k (FS k (ac t) 1 vars) fun r2=>
 aa k (eO k (ac r2.1) r2.2 c0) fun r3=>
 aa k (dB k r3.2) fun r4=>
 ab (!r4) (
  ret ((Tm.mk 0 0 ByteArray.empty [] [] []),r3.2)) (
  aa k (jz k (ac r3.1) 0 dims) fun r5=>
  aa k (eO k (ac r5.1) r5.2 r3.2) fun r6=>
  ret ((ac r6.1),r6.2)))
noncomputable def FX {S:Type} (k:Nat) (t:Tm) (vars dims c0:Int) (ret:Tm×Int→Option S):Option S:=afu k ret t vars dims c0
abbrev cP (S:Type):=Tm→(Int→Option S)→Option S
noncomputable def afF {S:Type} (hd:cP S) (k:Nat) (ret:Bool×Int→Option S) (a_k:Tm) (p p' c0:Int):Option S:=
 hd (ac a_k) fun r1=>
 ret (true,IntKind.wrap .i64 (c0+r1))
noncomputable def Au {S:Type} (hd:cP S) (k:Nat) (a_k:Tm) (p p' c0:Int) (ret:Bool×Int→Option S):Option S:=afF hd k ret a_k p p' c0
def Fr {S:Type} (hd:cP S) (k:Nat) (ret:Bool×Int→Option S) (t:Tm) (v42:Int) (x4:(Br Tm)) (more9:Int) (rec1:Int→Int→Int→Option S) (rec2:Int→Int→Option S) (e0_0'' v49:Int):Option S:=
 ab (decide ((v49:Int)<(x4.kids.length:Int))) (
 Option.bind (ae x4.kids v49) fun x5=>
 aa k (Au hd k (ac x5) 0 more9 e0_0'') fun r6=>
 ab (!r6.1) (
  ret (false,r6.2)) (
   rec2 r6.2 (IntKind.wrap .i64 (v49+1)))) (
  rec1 e0_0'' (IntKind.wrap .i64 (v42+1)) more9)
noncomputable def wF {S:Type} (hd:cP S) (k:Nat) (ret:Bool×Int→Option S) (rec1:Int→Int→Int→Option S) (t:Tm) (v42:Int) (x4:(Br Tm)) (more9:Int):Nat→Int→Int→Option S
 |0=>fun _ _=> .none
 |m+1=>fun e0_0'' v49=>Fr hd k ret t v42 x4 more9 rec1 (wF hd k ret rec1 t v42 x4 more9 m) e0_0'' v49
def zI {S:Type} (hd:cP S) (k:Nat) (ret:Bool×Int→Option S) (t:Tm) (J2:Int→(Br Tm)→Int→Int→Int→Option S) (rec1:Int→Int→Int→Option S) (e0_0' v42 more9:Int):Option S:=
 ab (decide ((v42:Int)<(t.sys.length:Int))) (
 Option.bind (ae t.sys v42) fun x4=>
  J2 v42 x4 more9 e0_0' 0) (
 ret (true,e0_0'))
noncomputable def rl {S:Type} (hd:cP S) (k:Nat) (ret:Bool×Int→Option S) (t:Tm):Nat→Int→Int→Int→Option S
 |0=>fun _ _ _=> .none
 |m+1=>fun e0_0' v42 more9=>zI hd k ret t (fun v42 x4 more9 e0_0'' v49=>wF hd k ret (rl hd k ret t m) t v42 x4 more9 k e0_0'' v49) (rl hd k ret t m) e0_0' v42 more9
def zH {S:Type} (hd:cP S) (k:Nat) (ret:Bool×Int→Option S) (t:Tm) (J1:Int→Int→Int→Option S) (rec0:Int→Int→Option S) (e0_0 v17:Int):Option S:=
 ab (decide ((v17:Int)<(t.kids.length:Int))) (
 Option.bind (ae t.kids v17) fun x1=>
 aa k (fj k t.kind v17) fun r2=>
 aa k (Au hd k (ac x1) r2.1 r2.2 e0_0) fun r3=>
 ab (!r3.1) (
  ret (false,r3.2)) (
   rec0 r3.2 (IntKind.wrap .i64 (v17+1)))) (
 ab (t.kind==15) (
   J1 e0_0 0 1) (
   J1 e0_0 0 0))
noncomputable def BB {S:Type} (hd:cP S) (k:Nat) (ret:Bool×Int→Option S) (t:Tm):Nat→Int→Int→Option S
 |0=>fun _ _=> .none
 |m+1=>fun e0_0 v17=>zH hd k ret t (fun e0_0' v42 more9=>rl hd k ret t k e0_0' v42 more9) (BB hd k ret t m) e0_0 v17
noncomputable def Pu {S:Type} (hd:cP S) (k:Nat) (ret:Bool×Int→Option S) (J0:Int→Int→Option S) (t:Tm) (c0:Int):Option S:=
 J0 c0 0
noncomputable def F7 {S:Type} (hd:cP S) (k:Nat) (t:Tm) (c0:Int) (ret:Bool×Int→Option S):Option S:=Pu hd k ret (fun e0_0 v17=>BB hd k ret t k e0_0 v17) t c0
noncomputable def afE {S:Type} (hd:cP S) (k:Nat) (ret:Int→Option S) (t:Tm):Option S:=
 aa k (F7 hd k (ac t) 1) fun r1=>
 ret r1.2
noncomputable def lb {S:Type}:Nat→Tm→(Int→Option S)→Option S
 |0=>fun _ _=> .none
 |k+1=>fun t ret=>afE (lb k) k ret t
abbrev eL (S:Type):=Tm→Int→(Int→Option S)→Option S
def Fp {S:Type} (hd:eL S) (k:Nat) (ret:Int→Option S) (a_n:Int) (t:Tm) (v49:Int) (x4:(Br Tm)) (rec2:Int→Int→Option S) (rec3:Int→Int→Option S) (sum5'' v56:Int):Option S:=
 ab (decide ((v56:Int)<(x4.kids.length:Int))) (
 Option.bind (ae x4.kids v56) fun x5=>
 hd (ac x5) a_n fun r6=>
  rec3 (IntKind.wrap .i64 (sum5''+r6)) (IntKind.wrap .i64 (v56+1))) (
  rec2 (IntKind.wrap .i64 (v49+1)) sum5'')
noncomputable def wz {S:Type} (hd:eL S) (k:Nat) (ret:Int→Option S) (rec2:Int→Int→Option S) (a_n:Int) (t:Tm) (v49:Int) (x4:(Br Tm)):Nat→Int→Int→Option S
 |0=>fun _ _=> .none
 |m+1=>fun sum5'' v56=>Fp hd k ret a_n t v49 x4 rec2 (wz hd k ret rec2 a_n t v49 x4 m) sum5'' v56
def zA {S:Type} (hd:eL S) (k:Nat) (ret:Int→Option S) (a_n:Int) (t:Tm) (J3:Int→(Br Tm)→Int→Int→Option S) (rec2:Int→Int→Option S) (v49 sum5':Int):Option S:=
 ab (decide ((v49:Int)<(t.sys.length:Int))) (
 Option.bind (ae t.sys v49) fun x4=>
  J3 v49 x4 sum5' 0) (
 ret sum5')
noncomputable def rh {S:Type} (hd:eL S) (k:Nat) (ret:Int→Option S) (a_n:Int) (t:Tm):Nat→Int→Int→Option S
 |0=>fun _ _=> .none
 |m+1=>fun v49 sum5'=>zA hd k ret a_n t (fun v49 x4 sum5'' v56=>wz hd k ret (rh hd k ret a_n t m) a_n t v49 x4 k sum5'' v56) (rh hd k ret a_n t m) v49 sum5'
def zz {S:Type} (hd:eL S) (k:Nat) (ret:Int→Option S) (t:Tm) (a_n:Int) (J2:Int→Int→Option S) (rec1:Int→Int→Option S) (v26 sum5:Int):Option S:=
 ab (decide ((v26:Int)<(t.kids.length:Int))) (
 Option.bind (ae t.kids v26) fun x1=>
 aa k (fj k t.kind v26) fun r2=>
 hd (ac x1) (IntKind.wrap .i64 (a_n+r2.1)) fun r3=>
  rec1 (IntKind.wrap .i64 (v26+1)) (IntKind.wrap .i64 (sum5+r3))) (
  J2 0 sum5)
noncomputable def wy {S:Type} (hd:eL S) (k:Nat) (ret:Int→Option S) (t:Tm) (a_n:Int):Nat→Int→Int→Option S
 |0=>fun _ _=> .none
 |m+1=>fun v26 sum5=>zz hd k ret t a_n (fun v49 sum5'=>rh hd k ret a_n t k v49 sum5') (wy hd k ret t a_n m) v26 sum5
noncomputable def zy {S:Type} (hd:eL S) (k:Nat) (ret:Int→Option S) (t:Tm) (a_n:Int) (J1:Int→Int→Option S):Option S:=
 J1 0 0
noncomputable def HK {S:Type} (hd:eL S) (k:Nat) (ret:Int→Option S) (t:Tm) (a_n:Int):Nat→Option S
 |0=> .none
 |_+1=>zy hd k ret t a_n (fun v26 sum5=>wy hd k ret t a_n k v26 sum5)
def OO {S:Type} (hd:eL S) (k:Nat) (ret:Int→Option S) (J0:Option S) (t:Tm) (a_n:Int):Option S:=
 ab (t.kind==1) (
 ab (t.n==a_n) (
  ret 1) (
   J0)) (
  J0)
noncomputable def jD {S:Type}:Nat→Tm→Int→(Int→Option S)→Option S
 |0=>fun _ _ _=> .none
 |k+1=>fun t a_n ret=>OO (jD k) k ret (HK (jD k) k ret t a_n k) t a_n
def afB {S:Type} (k:Nat) (ret:Int→Option S) (t:Tm):Option S:=
 ab (t.kind==15) (
 ret 1) (
 ret 0)
noncomputable def F6 {S:Type} (k:Nat) (t:Tm) (ret:Int→Option S):Option S:=afB k ret t
abbrev fH (S:Type):=Tm→Int→Tm→Int→Int→(Pan Int Tm→Option S)→Option S
def Fq {S:Type} (hd:fH S) (k:Nat) (ret:Pan Int Tm→Option S) (t:Tm) (b13_4:List Tm) (b13_5:List (Br Tm)) (x9:(Br Tm)) (u:Tm) (a_n vars dims v99:Int) (rec1:(List (Br Tm))→Int→Option S) (rec2:(List Tm)→Int→Option S) (b20_1:List Tm) (v110:Int):Option S:=
 ab (decide ((v110:Int)<(x9.kids.length:Int))) (
 Option.bind (ae x9.kids v110) fun x11=>
 aa k (F6 k (ac t)) fun r12=>
 hd (ac x11) a_n (ac u) vars (IntKind.wrap .i64 (dims+r12)) fun r14=>Pan.elim r14 (fun r14=>
  Option.bind (aq 1099511627776 b20_1.length [(ac r14)].length) fun x16=>
   rec2 (b20_1++[(ac r14)]) (IntKind.wrap .i64 (v110+1))) (fun e15=>
  ret (.pan e15))) (
 Option.bind (aq 1099511627776 b13_5.length [(Br.mk x9.face b20_1)].length) fun x17=>
  rec1 (b13_5++[(Br.mk x9.face b20_1)]) (IntKind.wrap .i64 (v99+1)))
noncomputable def wA {S:Type} (hd:fH S) (k:Nat) (ret:Pan Int Tm→Option S) (rec1:(List (Br Tm))→Int→Option S) (t:Tm) (b13_4:List Tm) (b13_5:List (Br Tm)) (x9:(Br Tm)) (u:Tm) (a_n vars dims v99:Int):Nat→(List Tm)→Int→Option S
 |0=>fun _ _=> .none
 |m+1=>fun b20_1 v110=>Fq hd k ret t b13_4 b13_5 x9 u a_n vars dims v99 rec1 (wA hd k ret rec1 t b13_4 b13_5 x9 u a_n vars dims v99 m) b20_1 v110
def zC {S:Type} (hd:fH S) (k:Nat) (ret:Pan Int Tm→Option S) (t:Tm) (b13_4:List Tm) (u:Tm) (a_n vars dims:Int) (J2:(List (Br Tm))→(Br Tm)→Int→(List Tm)→Int→Option S) (rec1:(List (Br Tm))→Int→Option S) (b13_5:List (Br Tm)) (v99:Int):Option S:=
 ab (decide ((v99:Int)<(t.sys.length:Int))) (
 Option.bind (ae t.sys v99) fun x9=>
 Option.bind (aq 1099511627776 0 x9.face.length) fun x10=>
  J2 b13_5 x9 v99 ([]:List Tm) 0) (
 ret (.ok (Tm.mk t.kind 0 t.name t.r b13_4 b13_5)))
noncomputable def ri {S:Type} (hd:fH S) (k:Nat) (ret:Pan Int Tm→Option S) (t:Tm) (b13_4:List Tm) (u:Tm) (a_n vars dims:Int):Nat→(List (Br Tm))→Int→Option S
 |0=>fun _ _=> .none
 |m+1=>fun b13_5 v99=>zC hd k ret t b13_4 u a_n vars dims (fun b13_5 x9 v99 b20_1 v110=>wA hd k ret (ri hd k ret t b13_4 u a_n vars dims m) t b13_4 b13_5 x9 u a_n vars dims v99 k b20_1 v110) (ri hd k ret t b13_4 u a_n vars dims m) b13_5 v99
def zB {S:Type} (hd:fH S) (k:Nat) (ret:Pan Int Tm→Option S) (t u:Tm) (a_n vars dims:Int) (J1:(List Tm)→(List (Br Tm))→Int→Option S) (rec0:(List Tm)→Int→Option S) (b13_4:List Tm) (v68:Int):Option S:=
 ab (decide ((v68:Int)<(t.kids.length:Int))) (
 Option.bind (ae t.kids v68) fun x3=>
 aa k (fj k t.kind v68) fun r4=>
 hd (ac x3) a_n (ac u) (IntKind.wrap .i64 (vars+r4.1)) (IntKind.wrap .i64 (dims+r4.2)) fun r6=>Pan.elim r6 (fun r6=>
  Option.bind (aq 1099511627776 b13_4.length [(ac r6)].length) fun x8=>
   rec0 (b13_4++[(ac r6)]) (IntKind.wrap .i64 (v68+1))) (fun e7=>
  ret (.pan e7))) (
  J1 b13_4 ([]:List (Br Tm)) 0)
noncomputable def Bz {S:Type} (hd:fH S) (k:Nat) (ret:Pan Int Tm→Option S) (t u:Tm) (a_n vars dims:Int):Nat→(List Tm)→Int→Option S
 |0=>fun _ _=> .none
 |m+1=>fun b13_4 v68=>zB hd k ret t u a_n vars dims (fun b13_4 b13_5 v99=>ri hd k ret t b13_4 u a_n vars dims k b13_5 v99) (Bz hd k ret t u a_n vars dims m) b13_4 v68
def OP {S:Type} (hd:fH S) (k:Nat) (ret:Pan Int Tm→Option S) (J0:(List Tm)→Int→Option S) (t:Tm) (a_n:Int) (u:Tm) (vars dims:Int):Option S:=
 ab (t.kind==1) (
 ab (t.n==(IntKind.wrap .i64 (a_n+vars))) (
  aa k (u_ k (ac u) vars dims) fun r1=>
  ab (!(r1.2==0)) (
  ret (.pan r1.2)) (
  ret (.ok (ac r1.1)))) (
  ab (decide ((t.n:Int)>(IntKind.wrap .i64 (a_n+vars)))) (
  ret (.ok (Tm.mk 1 (IntKind.wrap .i64 (t.n-1)) ByteArray.empty [] [] []))) (
  ret (.ok (ac t))))) (
 Option.bind (aq 1099511627776 0 t.r.length) fun x2=>
  J0 ([]:List Tm) 0)
noncomputable def jE {S:Type}:Nat→Tm→Int→Tm→Int→Int→(Pan Int Tm→Option S)→Option S
 |0=>fun _ _ _ _ _ _=> .none
 |k+1=>fun t a_n u vars dims ret=>OP (jE k) k ret (fun b13_4 v68=>Bz (jE k) k ret t u a_n vars dims k b13_4 v68) t a_n u vars dims
abbrev cO (S:Type):=Tm→(Int→Option S)→Option S
noncomputable def afD {S:Type} (hd:cO S) (k:Nat) (ret:Bool×Int→Option S) (a_k:Tm) (p p' c0:Int):Option S:=
 hd (ac a_k) fun r1=>
 ret (true,if r1>c0 then r1 else c0)
noncomputable def As {S:Type} (hd:cO S) (k:Nat) (a_k:Tm) (p p' c0:Int) (ret:Bool×Int→Option S):Option S:=afD hd k ret a_k p p' c0
def Fs {S:Type} (hd:cO S) (k:Nat) (ret:Bool×Int→Option S) (t:Tm) (v42:Int) (x4:(Br Tm)) (more9:Int) (rec1:Int→Int→Int→Option S) (rec2:Int→Int→Option S) (e0_0'' v49:Int):Option S:=
 ab (decide ((v49:Int)<(x4.kids.length:Int))) (
 Option.bind (ae x4.kids v49) fun x5=>
 aa k (As hd k (ac x5) 0 more9 e0_0'') fun r6=>
 ab (!r6.1) (
  ret (false,r6.2)) (
   rec2 r6.2 (IntKind.wrap .i64 (v49+1)))) (
  rec1 e0_0'' (IntKind.wrap .i64 (v42+1)) more9)
noncomputable def wG {S:Type} (hd:cO S) (k:Nat) (ret:Bool×Int→Option S) (rec1:Int→Int→Int→Option S) (t:Tm) (v42:Int) (x4:(Br Tm)) (more9:Int):Nat→Int→Int→Option S
 |0=>fun _ _=> .none
 |m+1=>fun e0_0'' v49=>Fs hd k ret t v42 x4 more9 rec1 (wG hd k ret rec1 t v42 x4 more9 m) e0_0'' v49
def zK {S:Type} (hd:cO S) (k:Nat) (ret:Bool×Int→Option S) (t:Tm) (J2:Int→(Br Tm)→Int→Int→Int→Option S) (rec1:Int→Int→Int→Option S) (e0_0' v42 more9:Int):Option S:=
 ab (decide ((v42:Int)<(t.sys.length:Int))) (
 Option.bind (ae t.sys v42) fun x4=>
  J2 v42 x4 more9 e0_0' 0) (
 ret (true,e0_0'))
noncomputable def rm {S:Type} (hd:cO S) (k:Nat) (ret:Bool×Int→Option S) (t:Tm):Nat→Int→Int→Int→Option S
 |0=>fun _ _ _=> .none
 |m+1=>fun e0_0' v42 more9=>zK hd k ret t (fun v42 x4 more9 e0_0'' v49=>wG hd k ret (rm hd k ret t m) t v42 x4 more9 k e0_0'' v49) (rm hd k ret t m) e0_0' v42 more9
def zJ {S:Type} (hd:cO S) (k:Nat) (ret:Bool×Int→Option S) (t:Tm) (J1:Int→Int→Int→Option S) (rec0:Int→Int→Option S) (e0_0 v17:Int):Option S:=
 ab (decide ((v17:Int)<(t.kids.length:Int))) (
 Option.bind (ae t.kids v17) fun x1=>
 aa k (fj k t.kind v17) fun r2=>
 aa k (As hd k (ac x1) r2.1 r2.2 e0_0) fun r3=>
 ab (!r3.1) (
  ret (false,r3.2)) (
   rec0 r3.2 (IntKind.wrap .i64 (v17+1)))) (
 ab (t.kind==15) (
   J1 e0_0 0 1) (
   J1 e0_0 0 0))
noncomputable def BC {S:Type} (hd:cO S) (k:Nat) (ret:Bool×Int→Option S) (t:Tm):Nat→Int→Int→Option S
 |0=>fun _ _=> .none
 |m+1=>fun e0_0 v17=>zJ hd k ret t (fun e0_0' v42 more9=>rm hd k ret t k e0_0' v42 more9) (BC hd k ret t m) e0_0 v17
noncomputable def Pv {S:Type} (hd:cO S) (k:Nat) (ret:Bool×Int→Option S) (J0:Int→Int→Option S) (t:Tm) (c0:Int):Option S:=
 J0 c0 0
noncomputable def F8 {S:Type} (hd:cO S) (k:Nat) (t:Tm) (c0:Int) (ret:Bool×Int→Option S):Option S:=Pv hd k ret (fun e0_0 v17=>BC hd k ret t k e0_0 v17) t c0
noncomputable def afC {S:Type} (hd:cO S) (k:Nat) (ret:Int→Option S) (t:Tm):Option S:=
 aa k (F8 hd k (ac t) 0) fun r1=>
 ret (IntKind.wrap .i64 (r1.2+1))
noncomputable def mY {S:Type}:Nat→Tm→(Int→Option S)→Option S
 |0=>fun _ _=> .none
 |k+1=>fun t ret=>afC (mY k) k ret t
def afA {S:Type} (k:Nat) (ret:Tm×Int→Option S) (t:Tm) (a_n:Int) (u:Tm):Option S:=
 aa k (eo k (ac t)) fun r1=>
 ab (!(r1==0)) (
 ret ((Tm.mk 0 0 ByteArray.empty [] [] []),r1)) (
 aa k (eo k (ac u)) fun r2=>
 ab (!(r2==0)) (
  ret ((Tm.mk 0 0 ByteArray.empty [] [] []),r2)) (
  ab (decide ((a_n:Int)<0)) (
  ret ((Tm.mk 0 0 ByteArray.empty [] [] []),2)) (
  lb k (ac t) fun r3=>
  jD k (ac t) (if 1099511627776<a_n then 1099511627776 else a_n) fun r4=>
  lb k (ac u) fun r5=>
  ab (decide ((IntKind.wrap .i64 (r3+(IntKind.wrap .i64 (r4*(IntKind.wrap .i64 (r5-1))))):Int)>20000)) (
   ret ((Tm.mk 0 0 ByteArray.empty [] [] []),221)) (
   jE k (ac t) (if 1099511627776<a_n then 1099511627776 else a_n) (ac u) 0 0 fun r7=>Pan.elim r7 (fun r7=>
   mY k (ac r7) fun r9=>
   ab (decide ((r9:Int)>200)) (
    ret ((Tm.mk 0 0 ByteArray.empty [] [] []),62)) (
    ret ((ac r7),0))) (fun e8=>
   ret ((Tm.mk 0 0 ByteArray.empty [] [] []),e8))))))
noncomputable def F5 {S:Type} (k:Nat) (t:Tm) (a_n:Int) (u:Tm) (ret:Tm×Int→Option S):Option S:=afA k ret t a_n u
def afx {S:Type} (k:Nat) (ret:Tm×Int→Option S) (t u:Tm) (c0:Int):Option S:=
 aa k (dB k c0) fun r1=>
 ab (!r1) (
 ret ((Tm.mk 0 0 ByteArray.empty [] [] []),c0)) (
 aa k (F5 k (ac t) 0 (ac u)) fun r2=>
 aa k (eO k (ac r2.1) r2.2 c0) fun r3=>
 ret ((ac r3.1),r3.2))
noncomputable def F0 {S:Type} (k:Nat) (t u:Tm) (c0:Int) (ret:Tm×Int→Option S):Option S:=afx k ret t u c0
def afy {S:Type} (k:Nat) (ret:Tm×Int→Option S) (t:Tm) (vars dims c0:Int):Option S:=
 aa k (dB k c0) fun r1=>
 ab (!r1) (
 ret ((Tm.mk 0 0 ByteArray.empty [] [] []),c0)) (
 aa k (u_ k (ac t) vars dims) fun r2=>
 aa k (eO k (ac r2.1) r2.2 c0) fun r3=>
 ret ((ac r3.1),r3.2))
noncomputable def F1 {S:Type} (k:Nat) (t:Tm) (vars dims c0:Int) (ret:Tm×Int→Option S):Option S:=afy k ret t vars dims c0
noncomputable def afz {S:Type} (k:Nat) (ret:Int×Int×ByteArray×List Tm→Option S) (kind:Int) (kids:List Tm):Option S:=
 ret (kind,0,ByteArray.empty,kids)
noncomputable def F4 {S:Type} (k:Nat) (kind:Int) (kids:List Tm) (ret:Int×Int×ByteArray×List Tm→Option S):Option S:=afz k ret kind kids
def Fk {S:Type} (k:Nat) (ret:Int×Int×ByteArray×List Tm×Int→Option S) (c0:Tm) (c1:Int) (a_x:Tm) (a_by:Int) (rec0:Int→(List Tm)→Int→Option S) (e3_0:Int) (kids10:List Tm) (v20:Int):Option S:=
 ab (decide ((v20:Int)<((List.drop (Int.toNat 1) (List.take (Int.toNat c1) c0.kids)).length:Int))) (
 Option.bind (ae (List.drop (Int.toNat 1) (List.take (Int.toNat c1) c0.kids)) v20) fun x2=>
 ab (decide ((a_by:Int)>0)) (
  aa k (F1 k (ac x2) 0 a_by e3_0) fun r3=>
  Option.bind (aq 1099511627776 kids10.length [(ac r3.1)].length) fun x4=>
   rec0 r3.2 (kids10++[(ac r3.1)]) (IntKind.wrap .i64 (v20+1))) (
  Option.bind (aq 1099511627776 kids10.length [(ac x2)].length) fun x5=>
   rec0 e3_0 (kids10++[(ac x2)]) (IntKind.wrap .i64 (v20+1)))) (
 Option.bind (aq 1099511627776 kids10.length [(ac a_x)].length) fun x6=>
 aa k (F4 k c0.kind (kids10++[(ac a_x)])) fun r7=>
 ret (r7.1,r7.2.1,r7.2.2.1,r7.2.2.2,e3_0))
noncomputable def Bw {S:Type} (k:Nat) (ret:Int×Int×ByteArray×List Tm×Int→Option S) (c0:Tm) (c1:Int) (a_x:Tm) (a_by:Int):Nat→Int→(List Tm)→Int→Option S
 |0=>fun _ _ _=> .none
 |m+1=>fun e3_0 kids10 v20=>Fk k ret c0 c1 a_x a_by (Bw k ret c0 c1 a_x a_by m) e3_0 kids10 v20
noncomputable def Oq {S:Type} (k:Nat) (ret:Int×Int×ByteArray×List Tm×Int→Option S) (J0:Int→(List Tm)→Int→Option S) (p:Tm) (a_by:Int) (a_x c0:Tm) (c1 c3:Int):Option S:=
 Option.bind (bw (0≤(1:Int)∧(1:Int)≤c1∧c1≤(c0.kids.length:Int))) fun x1=>
 J0 c3 [(ac p)] 0
noncomputable def Aj {S:Type} (k:Nat) (p:Tm) (a_by:Int) (a_x c0:Tm) (c1 c3:Int) (ret:Int×Int×ByteArray×List Tm×Int→Option S):Option S:=Oq k ret (fun e3_0 kids10 v20=>Bw k ret c0 c1 a_x a_by k e3_0 kids10 v20) p a_by a_x c0 c1 c3
noncomputable def OG {S:Type} (k:Nat) (ret:(Br Tm)→Option S) (f:List Cl) (kids:List Tm):Option S:=
 ret (Br.mk f kids)
noncomputable def vd {S:Type} (k:Nat) (f:List Cl) (kids:List Tm) (ret:(Br Tm)→Option S):Option S:=OG k ret f kids
def afi {S:Type} (k:Nat) (ret:Tm×Int→Option S) (line:Tm) (c0:Int):Option S:=
 aa k (fO k c0) fun r1=>
 ab (!r1) (
 ret ((Tm.mk 0 0 ByteArray.empty [] [] []),c0)) (
 aa k (mI k) fun r2=>
 aa k (jy k (ac line) 0 r2) fun r3=>
 aa k (jx k r3.2 c0) fun r4=>
 ret ((ac r3.1),r4))
noncomputable def FO {S:Type} (k:Nat) (line:Tm) (c0:Int) (ret:Tm×Int→Option S):Option S:=afi k ret line c0
def Fg {S:Type} (k:Nat) (ret:Tm×Int→Option S) (r3:Tm) (r9:Int×Int×ByteArray×List Tm) (r6:Tm) (rec0:Int→(List (Br Tm))→Int→Option S) (b19000_0:Int) (b9_5:List (Br Tm)) (v38:Int):Option S:=
 ab (decide ((v38:Int)<(r6.sys.length:Int))) (
 Option.bind (ae r6.sys v38) fun x10=>
 aa k (fO k b19000_0) fun r11=>
 ab (!r11) (
  aa k (p8 k (Tm.mk r9.1 r9.2.1 r9.2.2.1 [] r9.2.2.2 b9_5) b19000_0) fun r12=>
  ret ((ac r12.1),r12.2.1)) (
  aa k (z7 k (ac r3) [(Cl.mk 1 0),(Cl.mk 2 0)] b19000_0) fun r13=>
  Option.bind (ae x10.kids 0) fun x14=>
  aa k (kX k 14 [(ac r13.1),(ac x14)]) fun r15=>
  Option.bind (aq 1099511627776 b9_5.length [(Br.mk x10.face [(Tm.mk r15.1 r15.2.1 r15.2.2.1 [(Cl.mk 1 0)] r15.2.2.2 [])])].length) fun x16=>
   rec0 r13.2 (b9_5++[(Br.mk x10.face [(Tm.mk r15.1 r15.2.1 r15.2.2.1 [(Cl.mk 1 0)] r15.2.2.2 [])])]) (IntKind.wrap .i64 (v38+1)))) (
 aa k (p8 k (Tm.mk r9.1 r9.2.1 r9.2.2.1 [] r9.2.2.2 b9_5) b19000_0) fun r17=>
 ret ((ac r17.1),r17.2.1))
noncomputable def Bt {S:Type} (k:Nat) (ret:Tm×Int→Option S) (r3:Tm) (r9:Int×Int×ByteArray×List Tm) (r6:Tm):Nat→Int→(List (Br Tm))→Int→Option S
 |0=>fun _ _ _=> .none
 |m+1=>fun b19000_0 b9_5 v38=>Fg k ret r3 r9 r6 (Bt k ret r3 r9 r6 m) b19000_0 b9_5 v38
noncomputable def NL {S:Type} (k:Nat) (ret:Tm×Int→Option S) (J0:Tm→(Int×Int×ByteArray×List Tm)→Tm→Int→(List (Br Tm))→Int→Option S) (line a:Tm) (sys:List (Br Tm)):Option S:=
 aa k (uJ k sys) fun r1=>
 aa k (z6 k [(ac line),(ac a),(Tm.mk r1.1 r1.2.1 r1.2.2.1 [] r1.2.2.2.1 r1.2.2.2.2)]) fun r2=>
 dn k (ac line) fun r3=>
 dn k (ac a) fun r4=>
 aa k (uJ k sys) fun r5=>
 dn k (Tm.mk r5.1 r5.2.1 r5.2.2.1 [] r5.2.2.2.1 r5.2.2.2.2) fun r6=>
 aa k (FO k (ac r3) r2) fun r7=>
 aa k (kX k 14 [(ac r3),(ac r4)]) fun r8=>
 aa k (kX k 15 [(ac r7.1),(Tm.mk r8.1 r8.2.1 r8.2.2.1 [] r8.2.2.2 [])]) fun r9=>
 J0 r3 r9 r6 r7.2 ([]:List (Br Tm)) 0
noncomputable def FM {S:Type} (k:Nat) (line a:Tm) (sys:List (Br Tm)) (ret:Tm×Int→Option S):Option S:=NL k ret (fun r3 r9 r6 b19000_0 b9_5 v38=>Bt k ret r3 r9 r6 k b19000_0 b9_5 v38) line a sys
def afv {S:Type} (k:Nat) (ret:Tm×Int→Option S) (line a:Tm) (sys:List (Br Tm)) (c0:Int):Option S:=
 aa k (dB k c0) fun r1=>
 ab (!r1) (
 ret ((Tm.mk 0 0 ByteArray.empty [] [] []),c0)) (
 aa k (FM k (ac line) (ac a) sys) fun r2=>
 aa k (eO k (ac r2.1) r2.2 c0) fun r3=>
 ret ((ac r3.1),r3.2))
noncomputable def FY {S:Type} (k:Nat) (line a:Tm) (sys:List (Br Tm)) (c0:Int) (ret:Tm×Int→Option S):Option S:=afv k ret line a sys c0
noncomputable def OH {S:Type} (k:Nat) (ret:Tm×Bool×Int×Int→Option S) (t:Tm) (c0:Int):Option S:=
 aa k (eo k (ac t)) fun r1=>
 aa k (eO k (ac t) r1 c0) fun r2=>
 dn k (ac r2.1) fun r3=>
 aa k (dB k r2.2) fun r4=>
 ret ((ac r3),r4,r2.2,r2.2)
noncomputable def iz {S:Type} (k:Nat) (t:Tm) (c0:Int) (ret:Tm×Bool×Int×Int→Option S):Option S:=OH k ret t c0
def Fj {S:Type} (k:Nat) (ret:Tm×Bool×Int→Option S) (r3:Tm) (r9 r10:Tm×Int) (r13:Int×Int×ByteArray×List Tm×Int) (t x4:Tm) (rec1:Int→(List (Br Tm))→Int→Option S) (b53_0:Int) (sys14:List (Br Tm)) (v90:Int):Option S:=
 ab (decide ((v90:Int)<(x4.sys.length:Int))) (
 Option.bind (ae x4.sys v90) fun x14=>
 Option.bind (ae x14.kids 0) fun x15=>
 aa k (Aj k (ac r9.1) 1 (ac x15) (ac r3) (IntKind.wrap .i64 ((t.kids.length:Int)-1)) b53_0) fun r16=>
 aa k (vd k x14.face [(Tm.mk r16.1 r16.2.1 r16.2.2.1 [] r16.2.2.2.1 [])]) fun r17=>
 Option.bind (aq 1099511627776 sys14.length [r17].length) fun x18=>
  rec1 r16.2.2.2.2 (sys14++[r17]) (IntKind.wrap .i64 (v90+1))) (
 aa k (FY k (ac r10.1) (Tm.mk r13.1 r13.2.1 r13.2.2.1 [] r13.2.2.2.1 []) sys14 b53_0) fun r19=>
 aa k (iz k (ac r19.1) r19.2) fun r20=>
 ret ((ac r20.1),r20.2.1,r20.2.2.1))
noncomputable def wx {S:Type} (k:Nat) (ret:Tm×Bool×Int→Option S) (r3:Tm) (r9 r10:Tm×Int) (r13:Int×Int×ByteArray×List Tm×Int) (t x4:Tm):Nat→Int→(List (Br Tm))→Int→Option S
 |0=>fun _ _ _=> .none
 |m+1=>fun b53_0 sys14 v90=>Fj k ret r3 r9 r10 r13 t x4 (wx k ret r3 r9 r10 r13 t x4 m) b53_0 sys14 v90
noncomputable def zw {S:Type} (k:Nat) (ret:Tm×Bool×Int→Option S) (t:Tm) (J1:Tm→(Tm×Int)→(Tm×Int)→(Int×Int×ByteArray×List Tm×Int)→Tm→Int→(List (Br Tm))→Int→Option S):Option S:=
 dn k (ac t) fun r3=>
 Option.bind (ae r3.kids (IntKind.wrap .i64 ((t.kids.length:Int)-1))) fun x4=>
 Option.bind (ae x4.kids 0) fun x5=>
 Option.bind (ae x4.kids 1) fun x6=>
 aa k (FZ k (ac x5) (ac x6) x4.sys 0) fun r7=>
 Option.bind (ae r3.kids 0) fun x8=>
 aa k (FX k (ac x8) 0 1 r7.2) fun r9=>
 aa k (F0 k (ac r9.1) (ac r7.1) r9.2) fun r10=>
 Option.bind (ae r3.kids 0) fun x11=>
 Option.bind (ae x4.kids 1) fun x12=>
 aa k (Aj k (ac x11) 0 (ac x12) (ac r3) (IntKind.wrap .i64 ((t.kids.length:Int)-1)) r10.2) fun r13=>
 J1 r3 r9 r10 r13 x4 r13.2.2.2.2 ([]:List (Br Tm)) 0
noncomputable def HJ {S:Type} (k:Nat) (ret:Tm×Bool×Int→Option S) (t:Tm):Nat→Option S
 |0=> .none
 |_+1=>zw k ret t (fun r3 r9 r10 r13 x4 b53_0 sys14 v90=>wx k ret r3 r9 r10 r13 t x4 k b53_0 sys14 v90)
def Oo {S:Type} (k:Nat) (ret:Tm×Bool×Int→Option S) (J0:Option S) (t:Tm):Option S:=
 aa k (eo k (ac t)) fun r1=>
 ab (!(r1==0)) (
 ret ((Tm.mk 0 0 ByteArray.empty [] [] []),false,r1)) (
 ab (!(t.kind==22)) (
  ab (!(t.kind==27)) (
  ret ((Tm.mk 0 0 ByteArray.empty [] [] []),false,0)) (
  Option.bind (ae t.kids (IntKind.wrap .i64 ((t.kids.length:Int)-1))) fun x2=>
  ab (!(x2.kind==15)) (
   ret ((Tm.mk 0 0 ByteArray.empty [] [] []),false,0)) (
     J0))) (
  Option.bind (ae t.kids (IntKind.wrap .i64 ((t.kids.length:Int)-1))) fun x21=>
  ab (!(x21.kind==15)) (
  ret ((Tm.mk 0 0 ByteArray.empty [] [] []),false,0)) (
    J0)))
noncomputable def FQ {S:Type} (k:Nat) (t:Tm) (ret:Tm×Bool×Int→Option S):Option S:=Oo k ret (HJ k ret t k) t
noncomputable def yf {S:Type} (k:Nat) (ret:Int×Int×ByteArray×List Cl×List Tm→Option S) (kind:Int) (a_r:List Cl) (kids:List Tm):Option S:=
 ret (kind,0,ByteArray.empty,a_r,kids)
noncomputable def jC {S:Type} (k:Nat) (kind:Int) (a_r:List Cl) (kids:List Tm) (ret:Int×Int×ByteArray×List Cl×List Tm→Option S):Option S:=yf k ret kind a_r kids
def OL {S:Type} (k:Nat) (ret:Tm×Int→Option S) (t:Tm) (a_r:List Cl) (c0:Int):Option S:=
 aa k (dB k c0) fun r1=>
 ab (!r1) (
 ret ((Tm.mk 0 0 ByteArray.empty [] [] []),c0)) (
 aa k (jy k (ac t) 0 a_r) fun r2=>
 aa k (eO k (ac r2.1) r2.2 c0) fun r3=>
 ret ((ac r3.1),r3.2))
noncomputable def vh {S:Type} (k:Nat) (t:Tm) (a_r:List Cl) (c0:Int) (ret:Tm×Int→Option S):Option S:=OL k ret t a_r c0
noncomputable def OI {S:Type} (k:Nat) (ret:Tm×Int→Option S) (t:Tm) (c0:Int):Option S:=
 aa k (mI k) fun r1=>
 aa k (vh k (ac t) r1 c0) fun r2=>
 ret ((ac r2.1),r2.2)
noncomputable def ve {S:Type} (k:Nat) (t:Tm) (c0:Int) (ret:Tm×Int→Option S):Option S:=OI k ret t c0
def OK {S:Type} (k:Nat) (ret:List Cl×Int→Option S) (f:List Cl) (a_by c0:Int):Option S:=
 aa k (dB k c0) fun r1=>
 ab (!r1) (
 ret (([]:List Cl),c0)) (
 aa k (it k f 0 a_by) fun r2=>
 aa k (eO k (Tm.mk 0 0 ByteArray.empty [] [] []) r2.2 c0) fun r3=>
 ret (r2.1,r3.2))
noncomputable def vg {S:Type} (k:Nat) (f:List Cl) (a_by c0:Int) (ret:List Cl×Int→Option S):Option S:=OK k ret f a_by c0
def OJ {S:Type} (k:Nat) (ret:Tm×Int→Option S) (t:Tm) (a_by c0:Int):Option S:=
 aa k (dB k c0) fun r1=>
 ab (!r1) (
 ret ((Tm.mk 0 0 ByteArray.empty [] [] []),c0)) (
 aa k (jz k (ac t) 1 a_by) fun r2=>
 aa k (eO k (ac r2.1) r2.2 c0) fun r3=>
 ret ((ac r3.1),r3.2))
noncomputable def vf {S:Type} (k:Nat) (t:Tm) (a_by c0:Int) (ret:Tm×Int→Option S):Option S:=OJ k ret t a_by c0
noncomputable def ON {S:Type} (k:Nat) (ret:Int×Int×ByteArray×List Tm×List (Br Tm)→Option S) (kind:Int) (l:List (Br Tm)) (kids:List Tm):Option S:=
 ret (kind,0,ByteArray.empty,kids,l)
noncomputable def Am {S:Type} (k:Nat) (kind:Int) (l:List (Br Tm)) (kids:List Tm) (ret:Int×Int×ByteArray×List Tm×List (Br Tm)→Option S):Option S:=ON k ret kind l kids
end
end Go.Proofs.YtehekgbehghgdaaGreatDoor
namespace Go.Proofs.YtehekgbehghgdaaGreatDoor
open Go PI
set_option linter.unusedVariables false
set_option maxRecDepth 100000
noncomputable section
def tI {S:Type} (k:Nat) (ret:Tm×Bool×Int→Option S) (r3:Tm) (r15:Int×Int×ByteArray×List Cl×List Tm) (x4:Tm) (r13:Tm×Int) (x5:Tm) (rec0:Int→(List (Br Tm))→Int→Option S) (b44_0:Int) (sys11:List (Br Tm)) (v96:Int):Option S:=
 ab (decide ((v96:Int)<(x5.sys.length:Int))) (
 Option.bind (ae x5.sys v96) fun x16=>
 aa k (vg k r3.r 1 b44_0) fun r17=>
 aa k (vf k (ac x4) 1 r17.2) fun r18=>
 Option.bind (ae x16.kids 0) fun x19=>
 aa k (jC k 14 r17.1 [(ac r18.1),(ac x19)]) fun r20=>
 aa k (vd k x16.face [(Tm.mk r20.1 r20.2.1 r20.2.2.1 r20.2.2.2.1 r20.2.2.2.2 [])]) fun r21=>
 Option.bind (aq 1099511627776 sys11.length [r21].length) fun x22=>
  rec0 r18.2 (sys11++[r21]) (IntKind.wrap .i64 (v96+1))) (
 aa k (Am k 15 sys11 [(ac r13.1),(Tm.mk r15.1 r15.2.1 r15.2.2.1 r15.2.2.2.1 r15.2.2.2.2 [])]) fun r23=>
 aa k (iz k (Tm.mk r23.1 r23.2.1 r23.2.2.1 [] r23.2.2.2.1 r23.2.2.2.2) b44_0) fun r24=>
 ret ((ac r24.1),r24.2.1,r24.2.2.1))
noncomputable def lv {S:Type} (k:Nat) (ret:Tm×Bool×Int→Option S) (r3:Tm) (r15:Int×Int×ByteArray×List Cl×List Tm) (x4:Tm) (r13:Tm×Int) (x5:Tm):Nat→Int→(List (Br Tm))→Int→Option S
 |0=>fun _ _ _=> .none
 |m+1=>fun b44_0 sys11 v96=>tI k ret r3 r15 x4 r13 x5 (lv k ret r3 r15 x4 r13 x5 m) b44_0 sys11 v96
def D4 {S:Type} (k:Nat) (ret:Tm×Bool×Int→Option S) (J0:Tm→(Int×Int×ByteArray×List Cl×List Tm)→Tm→(Tm×Int)→Tm→Int→(List (Br Tm))→Int→Option S) (t:Tm):Option S:=
 aa k (eo k (ac t)) fun r1=>
 ab (!(r1==0)) (
 ret ((Tm.mk 0 0 ByteArray.empty [] [] []),false,r1)) (
 ab (!(t.kind==14)) (
  ret ((Tm.mk 0 0 ByteArray.empty [] [] []),false,0)) (
  Option.bind (ae t.kids 0) fun x2=>
  ab (!(x2.kind==23)) (
  ret ((Tm.mk 0 0 ByteArray.empty [] [] []),false,0)) (
  dn k (ac t) fun r3=>
  Option.bind (ae r3.kids 0) fun x4=>
  Option.bind (ae r3.kids 1) fun x5=>
  ab (x5.kind==24) (
   aa k (iz k (ac x5) 0) fun r6=>
   ret ((ac r6.1),r6.2.1,r6.2.2.1)) (
   ab (x5.kind==25) (
   aa k (iz k (ac x5) 0) fun r7=>
   ret ((ac r7.1),r7.2.1,r7.2.2.1)) (
   ab (x5.kind==26) (
    Option.bind (ae x4.kids 0) fun x8=>
    Option.bind (ae x5.kids 0) fun x9=>
    aa k (jC k 14 r3.r [(ac x8),(ac x9)]) fun r10=>
    aa k (jC k 26 x5.r [(Tm.mk r10.1 r10.2.1 r10.2.2.1 r10.2.2.2.1 r10.2.2.2.2 [])]) fun r11=>
    aa k (iz k (Tm.mk r11.1 r11.2.1 r11.2.2.1 r11.2.2.2.1 r11.2.2.2.2 []) 0) fun r12=>
    ret ((ac r12.1),r12.2.1,r12.2.2.1)) (
    ab (x5.kind==15) (
    aa k (ve k (ac x4) 0) fun r13=>
    Option.bind (ae x5.kids 1) fun x14=>
    aa k (jC k 14 r3.r [(ac x4),(ac x14)]) fun r15=>
        J0 r3 r15 x4 r13 x5 r13.2 ([]:List (Br Tm)) 0) (
    ret ((Tm.mk 0 0 ByteArray.empty [] [] []),false,0))))))))
noncomputable def ql {S:Type} (k:Nat) (t:Tm) (ret:Tm×Bool×Int→Option S):Option S:=D4 k ret (fun r3 r15 x4 r13 x5 b44_0 sys11 v96=>lv k ret r3 r15 x4 r13 x5 k b44_0 sys11 v96) t
def mt {S:Type} (k:Nat) (ret:Bool→Option S) (a b:List Cl) (rec0:Int→Option S) (i5:Int):Option S:=
 ab (decide ((i5:Int)<(a.length:Int))) (
 Option.bind (ae a i5) fun x1=>
 Option.bind (ae b i5) fun x2=>
 ab (!((x1.pos==x2.pos)&&((x1.neg==x2.neg)&&true))) (
  ret false) (
   rec0 (IntKind.wrap .i64 (i5+1)))) (
 ret true)
noncomputable def iW {S:Type} (k:Nat) (ret:Bool→Option S) (a b:List Cl):Nat→Int→Option S
 |0=>fun _=> .none
 |m+1=>fun i5=>mt k ret a b (iW k ret a b m) i5
def yg {S:Type} (k:Nat) (ret:Bool→Option S) (J0:Int→Option S) (a b:List Cl):Option S:=
 ab (!((a.length:Int)==(b.length:Int))) (
 ret false) (
  J0 0)
noncomputable def iA {S:Type} (k:Nat) (a b:List Cl) (ret:Bool→Option S):Option S:=yg k ret (fun i5=>iW k ret a b k i5) a b
abbrev d4 (S:Type):=Tm→Tm→(Bool→Option S)→Option S
def uk {S:Type} (hd:d4 S) (k:Nat) (ret:Bool→Option S) (a b:List Tm) (rec0:Int→Option S) (i5:Int):Option S:=
 ab (decide ((i5:Int)<(a.length:Int))) (
 Option.bind (ae a i5) fun x1=>
 Option.bind (ae b i5) fun x2=>
 hd (ac x1) (ac x2) fun r3=>
 ab (!r3) (
  ret false) (
   rec0 (IntKind.wrap .i64 (i5+1)))) (
 ret true)
noncomputable def nY {S:Type} (hd:d4 S) (k:Nat) (ret:Bool→Option S) (a b:List Tm):Nat→Int→Option S
 |0=>fun _=> .none
 |m+1=>fun i5=>uk hd k ret a b (nY hd k ret a b m) i5
def EB {S:Type} (hd:d4 S) (k:Nat) (ret:Bool→Option S) (J0:Int→Option S) (a b:List Tm):Option S:=
 ab (!((a.length:Int)==(b.length:Int))) (
 ret false) (
  J0 0)
noncomputable def qB {S:Type} (hd:d4 S) (k:Nat) (a b:List Tm) (ret:Bool→Option S):Option S:=EB hd k ret (fun i5=>nY hd k ret a b k i5) a b
def ui {S:Type} (hd:d4 S) (k:Nat) (ret:Bool→Option S) (a b:Tm) (rec0:Int→Option S) (i5:Int):Option S:=
 ab (decide ((i5:Int)<(a.sys.length:Int))) (
 Option.bind (ae a.sys i5) fun x3=>
 Option.bind (ae b.sys i5) fun x4=>
 aa k (iA k x3.face x4.face) fun r5=>
 ab (!r5) (
  ret false) (
  Option.bind (ae a.sys i5) fun x6=>
  Option.bind (ae b.sys i5) fun x7=>
  aa k (qB hd k x6.kids x7.kids) fun r8=>
  ab (!r8) (
  ret false) (
    rec0 (IntKind.wrap .i64 (i5+1))))) (
 ret true)
noncomputable def nW {S:Type} (hd:d4 S) (k:Nat) (ret:Bool→Option S) (a b:Tm):Nat→Int→Option S
 |0=>fun _=> .none
 |m+1=>fun i5=>ui hd k ret a b (nW hd k ret a b m) i5
def Ez {S:Type} (hd:d4 S) (k:Nat) (ret:Bool→Option S) (J0:Int→Option S) (a b:Tm):Option S:=
 ab (!(a.kind==b.kind)) (
 ret false) (
 ab (!(a.n==b.n)) (
  ret false) (
  ab (!(a.name==b.name)) (
  ret false) (
  aa k (iA k a.r b.r) fun r1=>
  ab (!r1) (
   ret false) (
   aa k (qB hd k a.kids b.kids) fun r2=>
   ab (!r2) (
   ret false) (
   ab (!((a.sys.length:Int)==(b.sys.length:Int))) (
    ret false) (
       J0 0))))))
noncomputable def dC {S:Type}:Nat→Tm→Tm→(Bool→Option S)→Option S
 |0=>fun _ _ _=> .none
 |k+1=>fun a b ret=>Ez (dC k) k ret (fun i5=>nW (dC k) k ret a b k i5) a b
def afo {S:Type} (k:Nat) (ret:Bool→Option S):Option S:=
 aa k (dI k 3 ([]:List Tm)) fun r1=>
 aa k (dI k 19 ([]:List Tm)) fun r2=>
 aa k (dI k 1 ([]:List Tm)) fun r3=>
 aa k (dI k 20 ([]:List Tm)) fun r4=>
 aa k (dI k 15 [(Tm.mk r2.1 r2.2.1 r2.2.2.1 [] r2.2.2.2 []),(Tm.mk r4.1 r4.2.1 r4.2.2.1 [] r4.2.2.2 [])]) fun r5=>
 aa k (dI k 22 [(Tm.mk r1.1 r1.2.1 r1.2.2.1 [] r1.2.2.2 []),(Tm.mk r2.1 r2.2.1 r2.2.2.1 [] r2.2.2.2 []),(Tm.mk r3.1 r3.2.1 r3.2.2.1 [] r3.2.2.2 []),(Tm.mk r5.1 r5.2.1 r5.2.2.1 [] r5.2.2.2 [])]) fun r6=>
 aa k (FQ k (Tm.mk r6.1 r6.2.1 r6.2.2.1 [] r6.2.2.2 [])) fun r7=>
 aa k (dI k 20 ([]:List Tm)) fun r8=>
 aa k (dI k 26 [(Tm.mk r8.1 r8.2.1 r8.2.2.1 [] r8.2.2.2 [])]) fun r9=>
 aa k (dI k 23 [(Tm.mk r2.1 r2.2.1 r2.2.2.1 [] r2.2.2.2 [])]) fun r10=>
 aa k (dI k 14 [(Tm.mk r10.1 r10.2.1 r10.2.2.1 [] r10.2.2.2 []),(Tm.mk r9.1 r9.2.1 r9.2.2.1 [(Cl.mk 1 0)] r9.2.2.2 [])]) fun r11=>
 aa k (ql k (Tm.mk r11.1 r11.2.1 r11.2.2.1 [] r11.2.2.2 [])) fun r12=>
 ab (!r7.2.1) (
 ret false) (
 ab (!(r7.2.2==0)) (
  ret false) (
  ab (!r12.2.1) (
  ret false) (
  ab (!(r12.2.2==0)) (
   ret false) (
   ab (!(r7.1.kind==15)) (
   ret false) (
   ab (!((r7.1.kids.length:Int)==2)) (
    ret false) (
    ab (!((r7.1.sys.length:Int)==0)) (
    ret false) (
    aa k (dI k 1 ([]:List Tm)) fun r13=>
    aa k (dI k 20 ([]:List Tm)) fun r14=>
    aa k (dI k 22 [(Tm.mk r1.1 r1.2.1 r1.2.2.1 [] r1.2.2.2 []),(Tm.mk r2.1 r2.2.1 r2.2.2.1 [] r2.2.2.2 []),(Tm.mk r13.1 r13.2.1 r13.2.2.1 [] r13.2.2.2 []),(Tm.mk r14.1 r14.2.1 r14.2.2.1 [] r14.2.2.2 [])]) fun r15=>
    aa k (dI k 14 [(Tm.mk r1.1 r1.2.1 r1.2.2.1 [] r1.2.2.2 []),(Tm.mk r15.1 r15.2.1 r15.2.2.1 [] r15.2.2.2 [])]) fun r16=>
    Option.bind (ae r7.1.kids 0) fun x17=>
    dC k (ac x17) (Tm.mk r1.1 r1.2.1 r1.2.2.1 [] r1.2.2.2 []) fun r18=>
    ab (r18) (
     Option.bind (ae r7.1.kids 1) fun x19=>
     dC k (ac x19) (Tm.mk r16.1 r16.2.1 r16.2.2.1 [] r16.2.2.2 []) fun r20=>
     ab (r20) (
     ab (r12.1.kind==26) (
      aa k (iA k r12.1.r [(Cl.mk 1 0)]) fun r21=>
      ab (r21) (
      ab ((r12.1.kids.length:Int)==1) (
       Option.bind (ae r12.1.kids 0) fun x22=>
       aa k (dI k 20 ([]:List Tm)) fun r23=>
       aa k (dI k 14 [(Tm.mk r2.1 r2.2.1 r2.2.2.1 [] r2.2.2.2 []),(Tm.mk r23.1 r23.2.1 r23.2.2.1 [] r23.2.2.2 [])]) fun r24=>
       dC k (ac x22) (Tm.mk r24.1 r24.2.1 r24.2.2.1 [] r24.2.2.2 []) fun r25=>
       ret r25) (
       ret false)) (
      ret false)) (
      ret false)) (
     ret false)) (
     ret false))))))))
noncomputable def qm {S:Type} (k:Nat) (ret:Bool→Option S):Option S:=afo k ret
abbrev fJ (S:Type):=Tm→(Tm→Option S)→Option S
def ug {S:Type} (hd:fJ S) (k:Nat) (ret:Tm→Option S) (t:Tm) (b3_4:List Tm) (b3_5:List (Br Tm)) (x5:(Br Tm)) (i5:Int) (rec1:(List (Br Tm))→Int→Option S) (rec2:(List Tm)→Int→Option S) (b6_1:List Tm) (v7:Int):Option S:=
 Option.bind (ae t.sys i5) fun x7=>
 ab (decide ((v7:Int)<(x7.kids.length:Int))) (
 Option.bind (ae t.sys i5) fun x8=>
 Option.bind (ae x8.kids v7) fun x9=>
 hd (ac x9) fun r10=>
 Option.bind (aq 1099511627776 b6_1.length [(ac r10)].length) fun x11=>
  rec2 (b6_1++[(ac r10)]) (IntKind.wrap .i64 (v7+1))) (
 Option.bind (aq 1099511627776 b3_5.length [(Br.mk (([]:List Cl)++x5.face) b6_1)].length) fun x12=>
  rec1 (b3_5++[(Br.mk (([]:List Cl)++x5.face) b6_1)]) (IntKind.wrap .i64 (i5+1)))
noncomputable def lJ {S:Type} (hd:fJ S) (k:Nat) (ret:Tm→Option S) (rec1:(List (Br Tm))→Int→Option S) (t:Tm) (b3_4:List Tm) (b3_5:List (Br Tm)) (x5:(Br Tm)) (i5:Int):Nat→(List Tm)→Int→Option S
 |0=>fun _ _=> .none
 |m+1=>fun b6_1 v7=>ug hd k ret t b3_4 b3_5 x5 i5 rec1 (lJ hd k ret rec1 t b3_4 b3_5 x5 i5 m) b6_1 v7
def pJ {S:Type} (hd:fJ S) (k:Nat) (ret:Tm→Option S) (t:Tm) (b3_4:List Tm) (J2:(List (Br Tm))→(Br Tm)→Int→(List Tm)→Int→Option S) (rec1:(List (Br Tm))→Int→Option S) (b3_5:List (Br Tm)) (i5:Int):Option S:=
 ab (decide ((i5:Int)<(t.sys.length:Int))) (
 Option.bind (ae t.sys i5) fun x5=>
 Option.bind (aq 1099511627776 ([]:List Cl).length x5.face.length) fun x6=>
  J2 b3_5 x5 i5 ([]:List Tm) 0) (
 ret (Tm.mk t.kind t.n t.name (([]:List Cl)++t.r) b3_4 b3_5))
noncomputable def iZ {S:Type} (hd:fJ S) (k:Nat) (ret:Tm→Option S) (t:Tm) (b3_4:List Tm):Nat→(List (Br Tm))→Int→Option S
 |0=>fun _ _=> .none
 |m+1=>fun b3_5 i5=>pJ hd k ret t b3_4 (fun b3_5 x5 i5 b6_1 v7=>lJ hd k ret (iZ hd k ret t b3_4 m) t b3_4 b3_5 x5 i5 k b6_1 v7) (iZ hd k ret t b3_4 m) b3_5 i5
def pI {S:Type} (hd:fJ S) (k:Nat) (ret:Tm→Option S) (t:Tm) (J1:(List Tm)→(List (Br Tm))→Int→Option S) (rec0:(List Tm)→Int→Option S) (b3_4:List Tm) (i4:Int):Option S:=
 ab (decide ((i4:Int)<(t.kids.length:Int))) (
 Option.bind (ae t.kids i4) fun x2=>
 hd (ac x2) fun r3=>
 Option.bind (aq 1099511627776 b3_4.length [(ac r3)].length) fun x4=>
  rec0 (b3_4++[(ac r3)]) (IntKind.wrap .i64 (i4+1))) (
  J1 b3_4 ([]:List (Br Tm)) 0)
noncomputable def nV {S:Type} (hd:fJ S) (k:Nat) (ret:Tm→Option S) (t:Tm):Nat→(List Tm)→Int→Option S
 |0=>fun _ _=> .none
 |m+1=>fun b3_4 i4=>pI hd k ret t (fun b3_4 b3_5 i5=>iZ hd k ret t b3_4 k b3_5 i5) (nV hd k ret t m) b3_4 i4
noncomputable def Ew {S:Type} (hd:fJ S) (k:Nat) (ret:Tm→Option S) (J0:(List Tm)→Int→Option S) (t:Tm):Option S:=
 Option.bind (aq 1099511627776 ([]:List Cl).length t.r.length) fun x1=>
 J0 ([]:List Tm) 0
noncomputable def gF {S:Type}:Nat→Tm→(Tm→Option S)→Option S
 |0=>fun _ _=> .none
 |k+1=>fun t ret=>Ew (gF k) k ret (fun b3_4 i4=>nV (gF k) k ret t k b3_4 i4) t
abbrev fK (S:Type):=Tm→(Int→Option S)→Option S
def uh {S:Type} (hd:fK S) (k:Nat) (ret:Int→Option S) (t:Tm) (i6:Int) (rec1:Int→Int→Option S) (rec2:Int→Int→Option S) (most3'' v7:Int):Option S:=
 Option.bind (ae t.sys i6) fun x3=>
 ab (decide ((v7:Int)<(x3.kids.length:Int))) (
 Option.bind (ae t.sys i6) fun x4=>
 Option.bind (ae x4.kids v7) fun x5=>
 hd (ac x5) fun r6=>
 ab (decide ((r6:Int)>most3'')) (
   rec2 r6 (IntKind.wrap .i64 (v7+1))) (
   rec2 most3'' (IntKind.wrap .i64 (v7+1)))) (
  rec1 most3'' (IntKind.wrap .i64 (i6+1)))
noncomputable def j9 {S:Type} (hd:fK S) (k:Nat) (ret:Int→Option S) (rec1:Int→Int→Option S) (t:Tm) (i6:Int):Nat→Int→Int→Option S
 |0=>fun _ _=> .none
 |m+1=>fun most3'' v7=>uh hd k ret t i6 rec1 (j9 hd k ret rec1 t i6 m) most3'' v7
def pL {S:Type} (hd:fK S) (k:Nat) (ret:Int→Option S) (t:Tm) (J2:Int→Int→Int→Option S) (rec1:Int→Int→Option S) (most3' i6:Int):Option S:=
 ab (decide ((i6:Int)<(t.sys.length:Int))) (
  J2 i6 most3' 0) (
 ret (IntKind.wrap .i64 (most3'+1)))
noncomputable def i8 {S:Type} (hd:fK S) (k:Nat) (ret:Int→Option S) (t:Tm):Nat→Int→Int→Option S
 |0=>fun _ _=> .none
 |m+1=>fun most3' i6=>pL hd k ret t (fun i6 most3'' v7=>j9 hd k ret (i8 hd k ret t m) t i6 k most3'' v7) (i8 hd k ret t m) most3' i6
def pK {S:Type} (hd:fK S) (k:Nat) (ret:Int→Option S) (t:Tm) (J1:Int→Int→Option S) (rec0:Int→Int→Option S) (most3 i4:Int):Option S:=
 ab (decide ((i4:Int)<(t.kids.length:Int))) (
 Option.bind (ae t.kids i4) fun x1=>
 hd (ac x1) fun r2=>
 ab (decide ((r2:Int)>most3)) (
   rec0 r2 (IntKind.wrap .i64 (i4+1))) (
   rec0 most3 (IntKind.wrap .i64 (i4+1)))) (
  J1 most3 0)
noncomputable def lK {S:Type} (hd:fK S) (k:Nat) (ret:Int→Option S) (t:Tm):Nat→Int→Int→Option S
 |0=>fun _ _=> .none
 |m+1=>fun most3 i4=>pK hd k ret t (fun most3' i6=>i8 hd k ret t k most3' i6) (lK hd k ret t m) most3 i4
noncomputable def Ey {S:Type} (hd:fK S) (k:Nat) (ret:Int→Option S) (J0:Int→Int→Option S) (t:Tm):Option S:=
 J0 0 0
noncomputable def gG {S:Type}:Nat→Tm→(Int→Option S)→Option S
 |0=>fun _ _=> .none
 |k+1=>fun t ret=>Ey (gG k) k ret (fun most3 i4=>lK (gG k) k ret t k most3 i4) t
abbrev fL (S:Type):=Tm→(Int→Option S)→Option S
def uj {S:Type} (hd:fL S) (k:Nat) (ret:Int→Option S) (t:Tm) (i5:Int) (rec1:Int→Int→Option S) (rec2:Int→Int→Option S) (v3'' v6:Int):Option S:=
 Option.bind (ae t.sys i5) fun x3=>
 ab (decide ((v6:Int)<(x3.kids.length:Int))) (
 Option.bind (ae t.sys i5) fun x4=>
 Option.bind (ae x4.kids v6) fun x5=>
 hd (ac x5) fun r6=>
  rec2 (IntKind.wrap .i64 (v3''+r6)) (IntKind.wrap .i64 (v6+1))) (
  rec1 v3'' (IntKind.wrap .i64 (i5+1)))
noncomputable def lL {S:Type} (hd:fL S) (k:Nat) (ret:Int→Option S) (rec1:Int→Int→Option S) (t:Tm) (i5:Int):Nat→Int→Int→Option S
 |0=>fun _ _=> .none
 |m+1=>fun v3'' v6=>uj hd k ret t i5 rec1 (lL hd k ret rec1 t i5 m) v3'' v6
def pN {S:Type} (hd:fL S) (k:Nat) (ret:Int→Option S) (t:Tm) (J2:Int→Int→Int→Option S) (rec1:Int→Int→Option S) (v3' i5:Int):Option S:=
 ab (decide ((i5:Int)<(t.sys.length:Int))) (
  J2 i5 v3' 0) (
 ret v3')
noncomputable def i_ {S:Type} (hd:fL S) (k:Nat) (ret:Int→Option S) (t:Tm):Nat→Int→Int→Option S
 |0=>fun _ _=> .none
 |m+1=>fun v3' i5=>pN hd k ret t (fun i5 v3'' v6=>lL hd k ret (i_ hd k ret t m) t i5 k v3'' v6) (i_ hd k ret t m) v3' i5
def pM {S:Type} (hd:fL S) (k:Nat) (ret:Int→Option S) (t:Tm) (J1:Int→Int→Option S) (rec0:Int→Int→Option S) (v3 i4:Int):Option S:=
 ab (decide ((i4:Int)<(t.kids.length:Int))) (
 Option.bind (ae t.kids i4) fun x1=>
 hd (ac x1) fun r2=>
  rec0 (IntKind.wrap .i64 (v3+r2)) (IntKind.wrap .i64 (i4+1))) (
  J1 v3 0)
noncomputable def nX {S:Type} (hd:fL S) (k:Nat) (ret:Int→Option S) (t:Tm):Nat→Int→Int→Option S
 |0=>fun _ _=> .none
 |m+1=>fun v3 i4=>pM hd k ret t (fun v3' i5=>i_ hd k ret t k v3' i5) (nX hd k ret t m) v3 i4
noncomputable def EA {S:Type} (hd:fL S) (k:Nat) (ret:Int→Option S) (J0:Int→Int→Option S) (t:Tm):Option S:=
 J0 1 0
noncomputable def gH {S:Type}:Nat→Tm→(Int→Option S)→Option S
 |0=>fun _ _=> .none
 |k+1=>fun t ret=>EA (gH k) k ret (fun v3 i4=>nX (gH k) k ret t k v3 i4) t
def O8 {S:Type} (k:Nat) (ret:Int→Option S) (t:Tm):Option S:=
 gG k (ac t) fun r1=>
 ab (decide ((r1:Int)>200)) (
 ret 62) (
 gH k (ac t) fun r2=>
 ab (decide ((r2:Int)>20000)) (
  ret 221) (
  ret 0))
noncomputable def vu {S:Type} (k:Nat) (t:Tm) (ret:Int→Option S):Option S:=O8 k ret t
def O4 {S:Type} (k:Nat) (ret:Int→Option S) (kind:Int):Option S:=
 ab (decide ((kind:Int)<0)) (
 ret (-1)) (
 ab (decide ((kind:Int)>28)) (
  ret (-1)) (
  Option.bind (bw (0≤kind∧kind<(29:Int))) fun x1=>
  Option.bind (ae [(-1),0,0,0,2,1,2,2,2,1,1,3,1,3,2,2,1,1,1,0,0,0,4,1,0,0,1,5,2] kind) fun x2=>
  ret x2))
noncomputable def qA {S:Type} (k:Nat) (kind:Int) (ret:Int→Option S):Option S:=O4 k ret kind
def O6 {S:Type} (k:Nat) (ret:Int→Option S) (kind:Int):Option S:=
 ab (kind==16) (
 ret 2) (
 ab (kind==15) (
  ret 1) (
  ab (kind==17) (
  ret 1) (
  ab (kind==18) (
   ret 1) (
   ret 0))))
noncomputable def mW {S:Type} (k:Nat) (kind:Int) (ret:Int→Option S):Option S:=O6 k ret kind
def zG {S:Type} (k:Nat) (ret:Bool→Option S) (s:ByteArray) (i3:Int) (x1:UInt8) (rec0:Int→Option S):Option S:=
 ab (!((x1.toNat:Int)==95)) (
 ab (decide (((x1.toNat:Int):Int)<97)) (
  ab (decide (((x1.toNat:Int):Int)<65)) (
  ret false) (
  ab (decide (((x1.toNat:Int):Int)>90)) (
   ret false) (
     rec0 (IntKind.wrap .i64 (i3+1))))) (
  ab (decide (((x1.toNat:Int):Int)>122)) (
  ab (decide (((x1.toNat:Int):Int)<65)) (
   ret false) (
   ab (decide (((x1.toNat:Int):Int)>90)) (
   ret false) (
      rec0 (IntKind.wrap .i64 (i3+1))))) (
    rec0 (IntKind.wrap .i64 (i3+1))))) (
  rec0 (IntKind.wrap .i64 (i3+1)))
noncomputable def wD {S:Type} (k:Nat) (ret:Bool→Option S) (rec0:Int→Option S) (s:ByteArray) (i3:Int) (x1:UInt8):Nat→Option S
 |0=> .none
 |_+1=>zG k ret s i3 x1 rec0
def pO {S:Type} (k:Nat) (ret:Bool→Option S) (s:ByteArray) (J1:Int→UInt8→Option S) (rec0:Int→Option S) (i3:Int):Option S:=
 ab (decide ((i3:Int)<(s.size:Int))) (
 Option.bind (ae s.data.toList i3) fun x1=>
 ab (decide (((x1.toNat:Int):Int)≥48)) (
  ab (decide (((x1.toNat:Int):Int)≤57)) (
  ab (decide ((i3:Int)>0)) (
     rec0 (IntKind.wrap .i64 (i3+1))) (
     J1 i3 x1)) (
    J1 i3 x1)) (
   J1 i3 x1)) (
 ret (decide (((s.size:Int):Int)>0)))
noncomputable def lM {S:Type} (k:Nat) (ret:Bool→Option S) (s:ByteArray):Nat→Int→Option S
 |0=>fun _=> .none
 |m+1=>fun i3=>pO k ret s (fun i3 x1=>wD k ret (lM k ret s m) s i3 x1 k) (lM k ret s m) i3
noncomputable def EC {S:Type} (k:Nat) (ret:Bool→Option S) (J0:Int→Option S) (s:ByteArray):Option S:=
 J0 0
noncomputable def vt {S:Type} (k:Nat) (s:ByteArray) (ret:Bool→Option S):Option S:=EC k ret (fun i3=>lM k ret s k i3) s
def tP {S:Type} (k:Nat) (ret:Int→Option S) (a_n:Int) (rec0:Int→Int→Option S) (p3 i4:Int):Option S:=
 ab (decide ((i4:Int)<a_n)) (
  rec0 (IntKind.wrap .i64 (p3*2)) (IntKind.wrap .i64 (i4+1))) (
 ret p3)
noncomputable def nH {S:Type} (k:Nat) (ret:Int→Option S) (a_n:Int):Nat→Int→Int→Option S
 |0=>fun _ _=> .none
 |m+1=>fun p3 i4=>tP k ret a_n (nH k ret a_n m) p3 i4
noncomputable def Eb {S:Type} (k:Nat) (ret:Int→Option S) (J0:Int→Int→Option S) (a_n:Int):Option S:=
 J0 1 0
noncomputable def mR {S:Type} (k:Nat) (a_n:Int) (ret:Int→Option S):Option S:=Eb k ret (fun p3 i4=>nH k ret a_n k p3 i4) a_n
noncomputable def OR {S:Type} (k:Nat) (ret:Bool→Option S) (s:Int):Option S:=
 aa k (mR k 24) fun r1=>
 ret (decide ((IntKind.wrap .i64 s:Int)<r1))
noncomputable def mQ {S:Type} (k:Nat) (s:Int) (ret:Bool→Option S):Option S:=OR k ret s
def OX {S:Type} (k:Nat) (ret:Bool→Option S) (c:Cl):Option S:=
 aa k (mQ k c.pos) fun r1=>
 ab (r1) (
 aa k (mQ k c.neg) fun r2=>
 ret r2) (
 ret false)
noncomputable def qw {S:Type} (k:Nat) (c:Cl) (ret:Bool→Option S):Option S:=OX k ret c
def OT {S:Type} (k:Nat) (ret:Bool→Option S) (a b:Cl):Option S:=
 ab ((aV .or .u32 a.pos b.pos)==a.pos) (
 ret ((aV .or .u32 a.neg b.neg)==a.neg)) (
 ret false)
noncomputable def vi {S:Type} (k:Nat) (a b:Cl) (ret:Bool→Option S):Option S:=OT k ret a b
def tT {S:Type} (k:Nat) (ret:Bool→Option S) (c:Cl) (l:List Cl) (rec0:Int→Option S) (i5:Int):Option S:=
 ab (decide ((i5:Int)<(l.length:Int))) (
 Option.bind (ae l i5) fun x1=>
 ab (!((x1.pos==c.pos)&&((x1.neg==c.neg)&&true))) (
  Option.bind (ae l i5) fun x2=>
  aa k (vi k c x2) fun r3=>
  ab (r3) (
  ret false) (
    rec0 (IntKind.wrap .i64 (i5+1)))) (
   rec0 (IntKind.wrap .i64 (i5+1)))) (
 ret true)
noncomputable def nL {S:Type} (k:Nat) (ret:Bool→Option S) (c:Cl) (l:List Cl):Nat→Int→Option S
 |0=>fun _=> .none
 |m+1=>fun i5=>tT k ret c l (nL k ret c l m) i5
noncomputable def Ee {S:Type} (k:Nat) (ret:Bool→Option S) (J0:Int→Option S) (l:List Cl) (c:Cl):Option S:=
 J0 0
noncomputable def vl {S:Type} (k:Nat) (l:List Cl) (c:Cl) (ret:Bool→Option S):Option S:=Ee k ret (fun i5=>nL k ret c l k i5) l c
def OU {S:Type} (k:Nat) (ret:Bool→Option S) (a b:Cl):Option S:=
 ab (decide ((a.pos:Int)<b.pos)) (
 ret true) (
 ab (a.pos==b.pos) (
  ret (decide ((a.neg:Int)<b.neg))) (
  ret false))
noncomputable def vj {S:Type} (k:Nat) (a b:Cl) (ret:Bool→Option S):Option S:=OU k ret a b
def tR {S:Type} (k:Nat) (ret:List Cl×Int→Option S) (l out5:List Cl) (i6:Int) (rec1:(List Cl)→Int→Option S) (rec2:Int→Option S) (v7:Int):Option S:=
 ab (decide ((v7:Int)<(out5.length:Int))) (
 Option.bind (ae out5 v7) fun x5=>
 Option.bind (ae out5 v7) fun x6=>
 Option.bind (ae l i6) fun x7=>
 aa k (vj k x6 x7) fun r8=>
 ab (r8) (
   rec2 (IntKind.wrap .i64 (v7+1))) (
  ab (v7==(out5.length:Int)) (
  Option.bind (bw (0≤v7∧v7≤(out5.length:Int))) fun x9=>
  Option.bind (aq 1099511627776 ([]:List Cl).length (List.take (Int.toNat v7) out5).length) fun x10=>
  Option.bind (ae l i6) fun x11=>
  Option.bind (aq 1099511627776 (([]:List Cl)++(List.take (Int.toNat v7) out5)).length [x11].length) fun x12=>
  Option.bind (bw (0≤v7∧v7≤(out5.length:Int))) fun x13=>
  Option.bind (aq 1099511627776 ((([]:List Cl)++(List.take (Int.toNat v7) out5))++[x11]).length (List.drop (Int.toNat v7) out5).length) fun x14=>
    rec1 (((([]:List Cl)++(List.take (Int.toNat v7) out5))++[x11])++(List.drop (Int.toNat v7) out5)) (IntKind.wrap .i64 (i6+1))) (
  Option.bind (ae out5 v7) fun x15=>
  Option.bind (ae out5 v7) fun x16=>
  Option.bind (ae l i6) fun x17=>
  ab (!((x16.pos==x17.pos)&&((x16.neg==x17.neg)&&true))) (
   Option.bind (bw (0≤v7∧v7≤(out5.length:Int))) fun x18=>
   Option.bind (aq 1099511627776 ([]:List Cl).length (List.take (Int.toNat v7) out5).length) fun x19=>
   Option.bind (ae l i6) fun x20=>
   Option.bind (aq 1099511627776 (([]:List Cl)++(List.take (Int.toNat v7) out5)).length [x20].length) fun x21=>
   Option.bind (bw (0≤v7∧v7≤(out5.length:Int))) fun x22=>
   Option.bind (aq 1099511627776 ((([]:List Cl)++(List.take (Int.toNat v7) out5))++[x20]).length (List.drop (Int.toNat v7) out5).length) fun x23=>
     rec1 (((([]:List Cl)++(List.take (Int.toNat v7) out5))++[x20])++(List.drop (Int.toNat v7) out5)) (IntKind.wrap .i64 (i6+1))) (
     rec1 out5 (IntKind.wrap .i64 (i6+1)))))) (
 ab (v7==(out5.length:Int)) (
  Option.bind (bw (0≤v7∧v7≤(out5.length:Int))) fun x24=>
  Option.bind (aq 1099511627776 ([]:List Cl).length (List.take (Int.toNat v7) out5).length) fun x25=>
  Option.bind (ae l i6) fun x26=>
  Option.bind (aq 1099511627776 (([]:List Cl)++(List.take (Int.toNat v7) out5)).length [x26].length) fun x27=>
  Option.bind (bw (0≤v7∧v7≤(out5.length:Int))) fun x28=>
  Option.bind (aq 1099511627776 ((([]:List Cl)++(List.take (Int.toNat v7) out5))++[x26]).length (List.drop (Int.toNat v7) out5).length) fun x29=>
   rec1 (((([]:List Cl)++(List.take (Int.toNat v7) out5))++[x26])++(List.drop (Int.toNat v7) out5)) (IntKind.wrap .i64 (i6+1))) (
  Option.bind (ae out5 v7) fun x30=>
  Option.bind (ae out5 v7) fun x31=>
  Option.bind (ae l i6) fun x32=>
  ab (!((x31.pos==x32.pos)&&((x31.neg==x32.neg)&&true))) (
  Option.bind (bw (0≤v7∧v7≤(out5.length:Int))) fun x33=>
  Option.bind (aq 1099511627776 ([]:List Cl).length (List.take (Int.toNat v7) out5).length) fun x34=>
  Option.bind (ae l i6) fun x35=>
  Option.bind (aq 1099511627776 (([]:List Cl)++(List.take (Int.toNat v7) out5)).length [x35].length) fun x36=>
  Option.bind (bw (0≤v7∧v7≤(out5.length:Int))) fun x37=>
  Option.bind (aq 1099511627776 ((([]:List Cl)++(List.take (Int.toNat v7) out5))++[x35]).length (List.drop (Int.toNat v7) out5).length) fun x38=>
    rec1 (((([]:List Cl)++(List.take (Int.toNat v7) out5))++[x35])++(List.drop (Int.toNat v7) out5)) (IntKind.wrap .i64 (i6+1))) (
    rec1 out5 (IntKind.wrap .i64 (i6+1)))))
noncomputable def lz {S:Type} (k:Nat) (ret:List Cl×Int→Option S) (rec1:(List Cl)→Int→Option S) (l out5:List Cl) (i6:Int):Nat→Int→Option S
 |0=>fun _=> .none
 |m+1=>fun v7=>tR k ret l out5 i6 rec1 (lz k ret rec1 l out5 i6 m) v7
def pw {S:Type} (k:Nat) (ret:List Cl×Int→Option S) (l:List Cl) (J2:(List Cl)→Int→Int→Option S) (rec1:(List Cl)→Int→Option S) (out5:List Cl) (i6:Int):Option S:=
 ab (decide ((i6:Int)<(l.length:Int))) (
 Option.bind (ae l i6) fun x3=>
 aa k (vl k l x3) fun r4=>
 ab (!r4) (
   rec1 out5 (IntKind.wrap .i64 (i6+1))) (
   J2 out5 i6 0)) (
 ab (decide (((out5.length:Int):Int)>64)) (
  ret (([]:List Cl),3)) (
  ret (out5,0)))
noncomputable def iV {S:Type} (k:Nat) (ret:List Cl×Int→Option S) (l:List Cl):Nat→(List Cl)→Int→Option S
 |0=>fun _ _=> .none
 |m+1=>fun out5 i6=>pw k ret l (fun out5 i6 v7=>lz k ret (iV k ret l m) l out5 i6 k v7) (iV k ret l m) out5 i6
def pu {S:Type} (k:Nat) (ret:List Cl×Int→Option S) (l:List Cl) (J1:(List Cl)→Int→Option S) (rec0:Int→Option S) (i4:Int):Option S:=
 ab (decide ((i4:Int)<(l.length:Int))) (
 Option.bind (ae l i4) fun x1=>
 aa k (qw k x1) fun r2=>
 ab (!r2) (
  ret (([]:List Cl),2)) (
   rec0 (IntKind.wrap .i64 (i4+1)))) (
  J1 ([]:List Cl) 0)
noncomputable def nJ {S:Type} (k:Nat) (ret:List Cl×Int→Option S) (l:List Cl):Nat→Int→Option S
 |0=>fun _=> .none
 |m+1=>fun i4=>pu k ret l (fun out5 i6=>iV k ret l k out5 i6) (nJ k ret l m) i4
noncomputable def Ed {S:Type} (k:Nat) (ret:List Cl×Int→Option S) (J0:Int→Option S) (l:List Cl):Option S:=
 J0 0
noncomputable def gD {S:Type} (k:Nat) (l:List Cl) (ret:List Cl×Int→Option S):Option S:=Ed k ret (fun i4=>nJ k ret l k i4) l
def OZ {S:Type} (k:Nat) (ret:Bool→Option S) (f:List Cl):Option S:=
 aa k (gD k f) fun r1=>
 ab (r1.2==0) (
 aa k (iA k r1.1 f) fun r2=>
 ret r2) (
 ret false)
noncomputable def dJ {S:Type} (k:Nat) (f:List Cl) (ret:Bool→Option S):Option S:=OZ k ret f
def OQ {S:Type} (k:Nat) (ret:Bool→Option S) (s i:Int):Option S:=
 ab (decide ((i:Int)≥0)) (
 ab (decide ((i:Int)<24)) (
  aa k (mR k i) fun r1=>
  Option.bind (bw (r1≠0)) fun x2=>
  ret ((Int.tmod (IntKind.wrap .i64 (Int.tdiv (IntKind.wrap .i64 s) r1)) 2)==1)) (
  ret false)) (
 ret false)
noncomputable def dl {S:Type} (k:Nat) (s i:Int) (ret:Bool→Option S):Option S:=OQ k ret s i
def tN {S:Type} (k:Nat) (ret:Int→Option S) (l:List Int) (rec0:Int→Int→Option S) (v3 i4:Int):Option S:=
 ab (decide ((i4:Int)<(l.length:Int))) (
 Option.bind (ae l i4) fun x1=>
 aa k (mR k x1) fun r2=>
  rec0 (IntKind.wrap .i64 (v3+r2)) (IntKind.wrap .i64 (i4+1))) (
 ret (IntKind.wrap .u32 v3))
noncomputable def nF {S:Type} (k:Nat) (ret:Int→Option S) (l:List Int):Nat→Int→Int→Option S
 |0=>fun _ _=> .none
 |m+1=>fun v3 i4=>tN k ret l (nF k ret l m) v3 i4
noncomputable def D_ {S:Type} (k:Nat) (ret:Int→Option S) (J0:Int→Int→Option S) (l:List Int):Option S:=
 J0 0 0
noncomputable def gC {S:Type} (k:Nat) (l:List Int) (ret:Int→Option S):Option S:=D_ k ret (fun v3 i4=>nF k ret l k v3 i4) l
def tV {S:Type} (k:Nat) (ret:Int→Option S) (f:List Cl) (l3:List Int) (i4:Int) (rec0:(List Int)→Int→Option S) (rec1:Bool→Int→Option S) (v5:Bool) (v6:Int):Option S:=
 ab (decide ((v6:Int)<(f.length:Int))) (
 ab (v5) (
   rec1 true (IntKind.wrap .i64 (v6+1))) (
  Option.bind (ae f v6) fun x1=>
  aa k (dl k x1.pos i4) fun r2=>
  ab (r2) (
    rec1 true (IntKind.wrap .i64 (v6+1))) (
  Option.bind (ae f v6) fun x3=>
  aa k (dl k x3.neg i4) fun r4=>
    rec1 r4 (IntKind.wrap .i64 (v6+1))))) (
 ab (v5) (
  Option.bind (aq 1099511627776 l3.length [i4].length) fun x5=>
   rec0 (l3++[i4]) (IntKind.wrap .i64 (i4+1))) (
   rec0 l3 (IntKind.wrap .i64 (i4+1))))
noncomputable def lA {S:Type} (k:Nat) (ret:Int→Option S) (rec0:(List Int)→Int→Option S) (f:List Cl) (l3:List Int) (i4:Int):Nat→Bool→Int→Option S
 |0=>fun _ _=> .none
 |m+1=>fun v5 v6=>tV k ret f l3 i4 rec0 (lA k ret rec0 f l3 i4 m) v5 v6
def px {S:Type} (k:Nat) (ret:Int→Option S) (f:List Cl) (J1:(List Int)→Int→Bool→Int→Option S) (rec0:(List Int)→Int→Option S) (l3:List Int) (i4:Int):Option S:=
 ab (decide ((i4:Int)<24)) (
  J1 l3 i4 false 0) (
 aa k (gC k l3) fun r6=>
 ret r6)
noncomputable def j4 {S:Type} (k:Nat) (ret:Int→Option S) (f:List Cl):Nat→(List Int)→Int→Option S
 |0=>fun _ _=> .none
 |m+1=>fun l3 i4=>px k ret f (fun l3 i4 v5 v6=>lA k ret (j4 k ret f m) f l3 i4 k v5 v6) (j4 k ret f m) l3 i4
noncomputable def Eg {S:Type} (k:Nat) (ret:Int→Option S) (J0:(List Int)→Int→Option S) (f:List Cl):Option S:=
 J0 ([]:List Int) 0
noncomputable def qy {S:Type} (k:Nat) (f:List Cl) (ret:Int→Option S):Option S:=Eg k ret (fun l3 i4=>j4 k ret f k l3 i4) f
def zD {S:Type} (k:Nat) (ret:List Int→Option S) (s:Int) (rec0:(List Int)→Int→Option S) (out3:List Int) (i4:Int):Option S:=
 ab (decide ((i4:Int)<24)) (
 aa k (dl k s i4) fun r1=>
 ab (r1) (
  Option.bind (aq 1099511627776 out3.length [i4].length) fun x2=>
   rec0 (out3++[i4]) (IntKind.wrap .i64 (i4+1))) (
   rec0 out3 (IntKind.wrap .i64 (i4+1)))) (
 ret out3)
noncomputable def rj {S:Type} (k:Nat) (ret:List Int→Option S) (s:Int):Nat→(List Int)→Int→Option S
 |0=>fun _ _=> .none
 |m+1=>fun out3 i4=>zD k ret s (rj k ret s m) out3 i4
noncomputable def D9 {S:Type} (k:Nat) (ret:List Int→Option S) (J0:(List Int)→Int→Option S) (s:Int):Option S:=
 J0 ([]:List Int) 0
noncomputable def gA {S:Type} (k:Nat) (s:Int) (ret:List Int→Option S):Option S:=D9 k ret (fun out3 i4=>rj k ret s k out3 i4) s
def O7 {S:Type} (k:Nat) (ret:Bool→Option S) (f:List Cl) (dims:Int):Option S:=
 aa k (qy k f) fun r1=>
 aa k (gA k r1) fun r2=>
 ab ((r2.length:Int)==0) (
 ret true) (
 Option.bind (ae r2 (IntKind.wrap .i64 ((r2.length:Int)-1))) fun x3=>
 Option.bind (ae r2 (IntKind.wrap .i64 ((r2.length:Int)-1))) fun x4=>
 ret (decide ((x4:Int)<dims)))
noncomputable def qC {S:Type} (k:Nat) (f:List Cl) (dims:Int) (ret:Bool→Option S):Option S:=O7 k ret f dims
def zF {S:Type} (k:Nat) (ret:Int×Int→Option S) (kind kid:Int):Option S:=
 ab (kid==0) (
 ab (kind==11) (
  ret (0,1)) (
  ab (kind==12) (
  ret (0,1)) (
  ab (kind==14) (
   ret (0,1)) (
   ret (0,0))))) (
 ret (0,0))
noncomputable def wC {S:Type} (k:Nat) (ret:Int×Int→Option S) (kind kid:Int):Nat→Option S
 |0=> .none
 |_+1=>zF k ret kind kid
def ue {S:Type} (k:Nat) (ret:Int×Int→Option S) (kind kid:Int) (J1:Option S):Option S:=
 ab (kid==0) (
 ab (kind==5) (
  ret (1,0)) (
  ab (kind==22) (
  ret (1,0)) (
  ab (kind==27) (
   ret (1,0)) (
     J1)))) (
  J1)
noncomputable def BA {S:Type} (k:Nat) (ret:Int×Int→Option S) (kind kid:Int):Nat→Option S
 |0=> .none
 |_+1=>ue k ret kind kid (wC k ret kind kid k)
def Eu {S:Type} (k:Nat) (ret:Int×Int→Option S) (J0:Option S) (kind kid:Int):Option S:=
 ab (kid==1) (
 ab (kind==4) (
  ret (1,0)) (
  ab (kind==7) (
  ret (1,0)) (
    J0))) (
  J0)
noncomputable def mT {S:Type} (k:Nat) (kind kid:Int) (ret:Int×Int→Option S):Option S:=Eu k ret (BA k ret kind kid k) kind kid
def tQ {S:Type} (k:Nat) (ret:Bool→Option S) (c:Cl) (rec0:Int→Option S) (i3:Int):Option S:=
 ab (decide ((i3:Int)<24)) (
 aa k (dl k c.pos i3) fun r1=>
 ab (r1) (
  aa k (dl k c.neg i3) fun r2=>
  ab (r2) (
  ret true) (
    rec0 (IntKind.wrap .i64 (i3+1)))) (
   rec0 (IntKind.wrap .i64 (i3+1)))) (
 ret false)
noncomputable def nI {S:Type} (k:Nat) (ret:Bool→Option S) (c:Cl):Nat→Int→Option S
 |0=>fun _=> .none
 |m+1=>fun i3=>tQ k ret c (nI k ret c m) i3
noncomputable def Ec {S:Type} (k:Nat) (ret:Bool→Option S) (J0:Int→Option S) (c:Cl):Option S:=
 J0 0
noncomputable def qu {S:Type} (k:Nat) (c:Cl) (ret:Bool→Option S):Option S:=Ec k ret (fun i3=>nI k ret c k i3) c
def t8 {S:Type} (k:Nat) (ret:Bool→Option S) (f:List Cl) (rec0:Int→Option S) (i3:Int):Option S:=
 ab (decide ((i3:Int)<(f.length:Int))) (
 Option.bind (ae f i3) fun x2=>
 aa k (qu k x2) fun r3=>
 ab (r3) (
  ret false) (
   rec0 (IntKind.wrap .i64 (i3+1)))) (
 ret true)
noncomputable def nR {S:Type} (k:Nat) (ret:Bool→Option S) (f:List Cl):Nat→Int→Option S
 |0=>fun _=> .none
 |m+1=>fun i3=>t8 k ret f (nR k ret f m) i3
def Er {S:Type} (k:Nat) (ret:Bool→Option S) (J0:Int→Option S) (f:List Cl):Option S:=
 aa k (dJ k f) fun r1=>
 ab (!r1) (
 ret false) (
  J0 0)
noncomputable def gE {S:Type} (k:Nat) (f:List Cl) (ret:Bool→Option S):Option S:=Er k ret (fun i3=>nR k ret f k i3) f
def O5 {S:Type} (k:Nat) (ret:Int→Option S) (kind:Int):Option S:=
 ab (kind==15) (
 ret 1) (
 ret 0)
noncomputable def mV {S:Type} (k:Nat) (kind:Int) (ret:Int→Option S):Option S:=O5 k ret kind
abbrev dg (S:Type):=Tm→Int→Int→Bool→(Bool→Option S)→Option S
def uc {S:Type} (hd:dg S) (k:Nat) (ret:Bool→Option S) (x11:(Br Tm)) (t:Tm) (vars i12 dims:Int) (bound:Bool) (rec5:Int→Option S) (rec6:Int→Option S) (v14:Int):Option S:=
 ab (decide ((v14:Int)<(x11.kids.length:Int))) (
 Option.bind (ae x11.kids v14) fun x15=>
 aa k (mV k t.kind) fun r16=>
 hd (ac x15) vars (IntKind.wrap .i64 (dims+r16)) bound fun r17=>
 ab (!r17) (
  ret false) (
   rec6 (IntKind.wrap .i64 (v14+1)))) (
  rec5 (IntKind.wrap .i64 (i12+1)))
noncomputable def j8 {S:Type} (hd:dg S) (k:Nat) (ret:Bool→Option S) (rec5:Int→Option S) (x11:(Br Tm)) (t:Tm) (vars i12 dims:Int) (bound:Bool):Nat→Int→Option S
 |0=>fun _=> .none
 |m+1=>fun v14=>uc hd k ret x11 t vars i12 dims bound rec5 (j8 hd k ret rec5 x11 t vars i12 dims bound m) v14
def pF {S:Type} (hd:dg S) (k:Nat) (ret:Bool→Option S) (t:Tm) (vars dims:Int) (bound:Bool) (J6:(Br Tm)→Int→Int→Option S) (rec5:Int→Option S) (i12:Int):Option S:=
 ab (decide ((i12:Int)<(t.sys.length:Int))) (
 Option.bind (ae t.sys i12) fun x11=>
 aa k (mW k t.kind) fun r12=>
 ab (!((x11.kids.length:Int)==r12)) (
  ret false) (
  aa k (gE k x11.face) fun r13=>
  ab (!r13) (
  ret false) (
  aa k (qC k x11.face dims) fun r14=>
  ab (!r14) (
   ret false) (
     J6 x11 i12 0)))) (
 ret true)
noncomputable def fY {S:Type} (hd:dg S) (k:Nat) (ret:Bool→Option S) (t:Tm) (vars dims:Int) (bound:Bool):Nat→Int→Option S
 |0=>fun _=> .none
 |m+1=>fun i12=>pF hd k ret t vars dims bound (fun x11 i12 v14=>j8 hd k ret (fY hd k ret t vars dims bound m) x11 t vars i12 dims bound k v14) (fY hd k ret t vars dims bound m) i12
def pD {S:Type} (hd:dg S) (k:Nat) (ret:Bool→Option S) (t:Tm) (vars dims:Int) (bound:Bool) (J5:Int→Option S) (rec4:Int→Option S) (i9:Int):Option S:=
 ab (decide ((i9:Int)<(t.kids.length:Int))) (
 aa k (mT k t.kind i9) fun r6=>
 ab (decide ((vars:Int)<0)) (
  Option.bind (ae t.kids i9) fun x7=>
  hd (ac x7) (IntKind.wrap .i64 (vars+0)) (IntKind.wrap .i64 (dims+r6.2)) bound fun r8=>
  ab (!r8) (
  ret false) (
    rec4 (IntKind.wrap .i64 (i9+1)))) (
  Option.bind (ae t.kids i9) fun x9=>
  hd (ac x9) (IntKind.wrap .i64 (vars+r6.1)) (IntKind.wrap .i64 (dims+r6.2)) bound fun r10=>
  ab (!r10) (
  ret false) (
    rec4 (IntKind.wrap .i64 (i9+1))))) (
  J5 0)
noncomputable def iX {S:Type} (hd:dg S) (k:Nat) (ret:Bool→Option S) (t:Tm) (vars dims:Int) (bound:Bool):Nat→Int→Option S
 |0=>fun _=> .none
 |m+1=>fun i9=>pD hd k ret t vars dims bound (fun i12=>fY hd k ret t vars dims bound k i12) (iX hd k ret t vars dims bound m) i9
def ub {S:Type} (hd:dg S) (k:Nat) (ret:Bool→Option S) (t:Tm) (vars dims:Int) (bound:Bool) (J4:Int→Option S):Option S:=
 aa k (qC k t.r dims) fun r5=>
 ab (!r5) (
 ret false) (
  J4 0)
noncomputable def nU {S:Type} (hd:dg S) (k:Nat) (ret:Bool→Option S) (t:Tm) (vars dims:Int) (bound:Bool):Nat→Option S
 |0=> .none
 |_+1=>ub hd k ret t vars dims bound (fun i9=>iX hd k ret t vars dims bound k i9)
def pC {S:Type} (hd:dg S) (k:Nat) (ret:Bool→Option S) (t:Tm) (vars dims:Int) (bound:Bool) (J3:Option S):Option S:=
 ab (t.kind==13) (
 aa k (dJ k t.r) fun r4=>
 ab (!r4) (
  ret false) (
   J3)) (
 ab (t.kind==21) (
  aa k (dJ k t.r) fun r18=>
  ab (!r18) (
  ret false) (
    J3)) (
  ab (t.kind==26) (
  aa k (dJ k t.r) fun r19=>
  ab (!r19) (
   ret false) (
     J3)) (
  ab (t.kind==14) (
   aa k (gE k t.r) fun r20=>
   ab (!r20) (
   ret false) (
      J3)) (
   ab (decide (((t.r.length:Int):Int)>0)) (
   ret false) (
      J3)))))
noncomputable def nT {S:Type} (hd:dg S) (k:Nat) (ret:Bool→Option S) (t:Tm) (vars dims:Int) (bound:Bool):Nat→Option S
 |0=> .none
 |_+1=>pC hd k ret t vars dims bound (nU hd k ret t vars dims bound k)
def pB {S:Type} (hd:dg S) (k:Nat) (ret:Bool→Option S) (t:Tm) (vars dims:Int) (bound:Bool) (J2:Option S):Option S:=
 ab (t.kind==2) (
 aa k (vt k t.name) fun r3=>
 ab (!r3) (
  ret false) (
  ab (!(t.kind==2)) (
  ab (!(t.name==ByteArray.empty)) (
   ret false) (
     J2)) (
    J2))) (
 ab (!(t.kind==2)) (
  ab (!(t.name==ByteArray.empty)) (
  ret false) (
    J2)) (
   J2))
noncomputable def rk {S:Type} (hd:dg S) (k:Nat) (ret:Bool→Option S) (t:Tm) (vars dims:Int) (bound:Bool):Nat→Option S
 |0=> .none
 |_+1=>pB hd k ret t vars dims bound (nT hd k ret t vars dims bound k)
def ua {S:Type} (hd:dg S) (k:Nat) (ret:Bool→Option S) (t:Tm) (vars dims:Int) (bound:Bool) (J1:Option S):Option S:=
 ab (t.kind==1) (
 ab (decide ((t.n:Int)<0)) (
  ret false) (
  ab (decide ((vars:Int)≥0)) (
  ab (decide ((t.n:Int)≥vars)) (
   ret false) (
     J1)) (
    J1))) (
 ab (!(t.n==0)) (
  ret false) (
   J1))
noncomputable def wB {S:Type} (hd:dg S) (k:Nat) (ret:Bool→Option S) (t:Tm) (vars dims:Int) (bound:Bool):Nat→Option S
 |0=> .none
 |_+1=>ua hd k ret t vars dims bound (rk hd k ret t vars dims bound k)
def Et {S:Type} (hd:dg S) (k:Nat) (ret:Bool→Option S) (J0:Option S) (t:Tm) (vars dims:Int) (bound:Bool):Option S:=
 ab (bound) (
 ab (decide ((dims:Int)>24)) (
  ret false) (
  aa k (qA k t.kind) fun r1=>
  ab (!(r1==(t.kids.length:Int))) (
  ret false) (
  ab (decide (((t.sys.length:Int):Int)>0)) (
   aa k (mW k t.kind) fun r2=>
   ab (r2==0) (
   ret false) (
      J0)) (
     J0)))) (
 aa k (qA k t.kind) fun r21=>
 ab (!(r21==(t.kids.length:Int))) (
  ret false) (
  ab (decide (((t.sys.length:Int):Int)>0)) (
  aa k (mW k t.kind) fun r22=>
  ab (r22==0) (
   ret false) (
     J0)) (
    J0)))
noncomputable def cq {S:Type}:Nat→Tm→Int→Int→Bool→(Bool→Option S)→Option S
 |0=>fun _ _ _ _ _=> .none
 |k+1=>fun t vars dims bound ret=>Et (cq k) k ret (wB (cq k) k ret t vars dims bound k) t vars dims bound
def O3 {S:Type} (k:Nat) (ret:Int→Option S) (t:Tm):Option S:=
 aa k (vu k (ac t)) fun r1=>
 ab (r1==0) (
 cq k (ac t) (-1) 24 false fun r2=>
 ab (!r2) (
  ret 100) (
  ret r1)) (
 ret r1)
noncomputable def mU {S:Type} (k:Nat) (t:Tm) (ret:Int→Option S):Option S:=O3 k ret t
noncomputable def O9 {S:Type} (k:Nat) (ret:Int×Int×ByteArray→Option S) (a_e:Int):Option S:=
 ret (IntKind.wrap .i64 (0-a_e),0,ByteArray.empty)
noncomputable def ei {S:Type} (k:Nat) (a_e:Int) (ret:Int×Int×ByteArray→Option S):Option S:=O9 k ret a_e
def tM {S:Type} (k:Nat) (ret:Int×Int→Option S) (a_from a_by:Int) (rec0:(List Int)→Int→Option S) (l8:List Int) (v9:Int):Option S:=
 ab (decide ((v9:Int)<(l8.length:Int))) (
 Option.bind (ae l8 v9) fun x2=>
 Option.bind (ae l8 v9) fun x3=>
 ab (decide ((x3:Int)<a_from)) (
   rec0 l8 (IntKind.wrap .i64 (v9+1))) (
  Option.bind (ae l8 v9) fun x4=>
  Option.bind (ae l8 v9) fun x5=>
  ab (decide ((a_by:Int)≥(IntKind.wrap .i64 (24-x5)))) (
  ret (0,10)) (
  Option.bind (ae l8 v9) fun x6=>
  Option.bind (ae l8 v9) fun x7=>
  Option.bind (ae l8 v9) fun x8=>
  Option.bind (ae l8 v9) fun x9=>
    rec0 (l8.set (Int.toNat v9) (IntKind.wrap .i64 (x7+a_by))) (IntKind.wrap .i64 (v9+1))))) (
 aa k (gC k l8) fun r10=>
 ret (r10,0))
noncomputable def ly {S:Type} (k:Nat) (ret:Int×Int→Option S) (a_from a_by:Int):Nat→(List Int)→Int→Option S
 |0=>fun _ _=> .none
 |m+1=>fun l8 v9=>tM k ret a_from a_by (ly k ret a_from a_by m) l8 v9
def sZ {S:Type} (k:Nat) (ret:Int×Int→Option S) (J0:(List Int)→Int→Option S) (s a_from a_by:Int):Option S:=
 ab (decide ((a_from:Int)<0)) (
 ret (0,2)) (
 ab (decide ((a_by:Int)<0)) (
  ret (0,2)) (
  aa k (gA k s) fun r1=>
   J0 r1 0))
noncomputable def jF {S:Type} (k:Nat) (s a_from a_by:Int) (ret:Int×Int→Option S):Option S:=sZ k ret (fun l8 v9=>ly k ret a_from a_by k l8 v9) s a_from a_by
def OV {S:Type} (k:Nat) (ret:Cl×Int→Option S) (c:Cl) (a_from a_by:Int):Option S:=
 aa k (qw k c) fun r1=>
 ab (!r1) (
 ret ((Cl.mk 0 0),2)) (
 aa k (jF k c.pos a_from a_by) fun r2=>
 ab (!(r2.2==0)) (
  ret ((Cl.mk 0 0),r2.2)) (
  aa k (jF k c.neg a_from a_by) fun r3=>
  ab (!(r3.2==0)) (
  ret ((Cl.mk 0 0),r3.2)) (
  ret ((Cl.mk r2.1 r3.1),0))))
noncomputable def vk {S:Type} (k:Nat) (c:Cl) (a_from a_by:Int) (ret:Cl×Int→Option S):Option S:=OV k ret c a_from a_by
def tW {S:Type} (k:Nat) (ret:List Cl×Int→Option S) (f:List Cl) (a_from a_by:Int) (rec0:(List Cl)→Int→Option S) (out8:List Cl) (i9:Int):Option S:=
 ab (decide ((i9:Int)<(f.length:Int))) (
 Option.bind (ae f i9) fun x2=>
 aa k (vk k x2 a_from a_by) fun r3=>
 ab (!(r3.2==0)) (
  ret (([]:List Cl),r3.2)) (
  Option.bind (aq 1099511627776 out8.length [r3.1].length) fun x4=>
   rec0 (out8++[r3.1]) (IntKind.wrap .i64 (i9+1)))) (
 aa k (gD k out8) fun r5=>
 ret (r5.1,r5.2))
noncomputable def nN {S:Type} (k:Nat) (ret:List Cl×Int→Option S) (f:List Cl) (a_from a_by:Int):Nat→(List Cl)→Int→Option S
 |0=>fun _ _=> .none
 |m+1=>fun out8 i9=>tW k ret f a_from a_by (nN k ret f a_from a_by m) out8 i9
def Eh {S:Type} (k:Nat) (ret:List Cl×Int→Option S) (J0:(List Cl)→Int→Option S) (f:List Cl) (a_from a_by:Int):Option S:=
 aa k (dJ k f) fun r1=>
 ab (!r1) (
 ret (([]:List Cl),2)) (
  J0 ([]:List Cl) 0)
noncomputable def jG {S:Type} (k:Nat) (f:List Cl) (a_from a_by:Int) (ret:List Cl×Int→Option S):Option S:=Eh k ret (fun out8 i9=>nN k ret f a_from a_by k out8 i9) f a_from a_by
def Pb {S:Type} (k:Nat) (ret:List Cl×Int→Option S) (f:List Cl) (a_from a_by:Int):Option S:=
 ab ((f.length:Int)==0) (
 ret (([]:List Cl),0)) (
 aa k (jG k f a_from a_by) fun r1=>
 ret (r1.1,r1.2))
noncomputable def qD {S:Type} (k:Nat) (f:List Cl) (a_from a_by:Int) (ret:List Cl×Int→Option S):Option S:=Pb k ret f a_from a_by
abbrev eM (S:Type):=Tm→Int→Int→Int→Int→(Tm→Option S)→Option S
def ul {S:Type} (hd:eM S) (k:Nat) (ret:Tm→Option S) (t:Tm) (b11_1:Int) (r2:List Cl×Int) (b11_4:List Tm) (b11_5:List (Br Tm)) (r9:List Cl×Int) (v i18 vby d dby:Int) (rec2:(List (Br Tm))→Int→Option S) (rec3:(List Tm)→Int→Option S) (b21_1:List Tm) (v22:Int):Option S:=
 Option.bind (ae t.sys i18) fun x11=>
 ab (decide ((v22:Int)<(x11.kids.length:Int))) (
 Option.bind (ae t.sys i18) fun x12=>
 Option.bind (ae x12.kids v22) fun x13=>
 aa k (mV k t.kind) fun r14=>
 hd (ac x13) v vby (IntKind.wrap .i64 (d+r14)) dby fun r15=>
 ab (decide ((r15.kind:Int)<0)) (
  ret (ac r15)) (
  Option.bind (aq 1099511627776 b21_1.length [(ac r15)].length) fun x16=>
   rec3 (b21_1++[(ac r15)]) (IntKind.wrap .i64 (v22+1)))) (
 Option.bind (aq 1099511627776 b11_5.length [(Br.mk r9.1 b21_1)].length) fun x17=>
  rec2 (b11_5++[(Br.mk r9.1 b21_1)]) (IntKind.wrap .i64 (i18+1)))
noncomputable def gR {S:Type} (hd:eM S) (k:Nat) (ret:Tm→Option S) (rec2:(List (Br Tm))→Int→Option S) (t:Tm) (b11_1:Int) (r2:List Cl×Int) (b11_4:List Tm) (b11_5:List (Br Tm)) (r9:List Cl×Int) (v i18 vby d dby:Int):Nat→(List Tm)→Int→Option S
 |0=>fun _ _=> .none
 |m+1=>fun b21_1 v22=>ul hd k ret t b11_1 r2 b11_4 b11_5 r9 v i18 vby d dby rec2 (gR hd k ret rec2 t b11_1 r2 b11_4 b11_5 r9 v i18 vby d dby m) b21_1 v22
def pR {S:Type} (hd:eM S) (k:Nat) (ret:Tm→Option S) (t:Tm) (b11_1:Int) (r2:List Cl×Int) (b11_4:List Tm) (v vby d dby:Int) (J3:(List (Br Tm))→(List Cl×Int)→Int→(List Tm)→Int→Option S) (rec2:(List (Br Tm))→Int→Option S) (b11_5:List (Br Tm)) (i18:Int):Option S:=
 ab (decide ((i18:Int)<(t.sys.length:Int))) (
 Option.bind (ae t.sys i18) fun x8=>
 aa k (qD k x8.face d dby) fun r9=>
 ab (!(r9.2==0)) (
  aa k (ei k r9.2) fun r10=>
  ret (Tm.mk r10.1 r10.2.1 r10.2.2 [] [] [])) (
   J3 b11_5 r9 i18 ([]:List Tm) 0)) (
 ret (Tm.mk t.kind b11_1 t.name r2.1 b11_4 b11_5))
noncomputable def d9 {S:Type} (hd:eM S) (k:Nat) (ret:Tm→Option S) (t:Tm) (b11_1:Int) (r2:List Cl×Int) (b11_4:List Tm) (v vby d dby:Int):Nat→(List (Br Tm))→Int→Option S
 |0=>fun _ _=> .none
 |m+1=>fun b11_5 i18=>pR hd k ret t b11_1 r2 b11_4 v vby d dby (fun b11_5 r9 i18 b21_1 v22=>gR hd k ret (d9 hd k ret t b11_1 r2 b11_4 v vby d dby m) t b11_1 r2 b11_4 b11_5 r9 v i18 vby d dby k b21_1 v22) (d9 hd k ret t b11_1 r2 b11_4 v vby d dby m) b11_5 i18
def pQ {S:Type} (hd:eM S) (k:Nat) (ret:Tm→Option S) (t:Tm) (b11_1:Int) (r2:List Cl×Int) (v vby d dby:Int) (J2:(List Tm)→(List (Br Tm))→Int→Option S) (rec1:(List Tm)→Int→Option S) (b11_4:List Tm) (i14:Int):Option S:=
 ab (decide ((i14:Int)<(t.kids.length:Int))) (
 aa k (mT k t.kind i14) fun r4=>
 Option.bind (ae t.kids i14) fun x5=>
 hd (ac x5) (IntKind.wrap .i64 (v+r4.1)) vby (IntKind.wrap .i64 (d+r4.2)) dby fun r6=>
 ab (decide ((r6.kind:Int)<0)) (
  ret (ac r6)) (
  Option.bind (aq 1099511627776 b11_4.length [(ac r6)].length) fun x7=>
   rec1 (b11_4++[(ac r6)]) (IntKind.wrap .i64 (i14+1)))) (
  J2 b11_4 ([]:List (Br Tm)) 0)
noncomputable def fZ {S:Type} (hd:eM S) (k:Nat) (ret:Tm→Option S) (t:Tm) (b11_1:Int) (r2:List Cl×Int) (v vby d dby:Int):Nat→(List Tm)→Int→Option S
 |0=>fun _ _=> .none
 |m+1=>fun b11_4 i14=>pQ hd k ret t b11_1 r2 v vby d dby (fun b11_4 b11_5 i18=>d9 hd k ret t b11_1 r2 b11_4 v vby d dby k b11_5 i18) (fZ hd k ret t b11_1 r2 v vby d dby m) b11_4 i14
def pP {S:Type} (hd:eM S) (k:Nat) (ret:Tm→Option S) (t:Tm) (v vby d dby:Int) (J1:Int→(List Cl×Int)→(List Tm)→Int→Option S) (b11_1:Int):Option S:=
 aa k (qD k t.r d dby) fun r2=>
 ab (!(r2.2==0)) (
 aa k (ei k r2.2) fun r3=>
 ret (Tm.mk r3.1 r3.2.1 r3.2.2 [] [] [])) (
  J1 b11_1 r2 ([]:List Tm) 0)
noncomputable def wE {S:Type} (hd:eM S) (k:Nat) (ret:Tm→Option S) (t:Tm) (v vby d dby:Int):Nat→Int→Option S
 |0=>fun _=> .none
 |_+1=>fun b11_1=>pP hd k ret t v vby d dby (fun b11_1 r2 b11_4 i14=>fZ hd k ret t b11_1 r2 v vby d dby k b11_4 i14) b11_1
def ED {S:Type} (hd:eM S) (k:Nat) (ret:Tm→Option S) (J0:Int→Option S) (t:Tm) (v vby d dby:Int):Option S:=
 ab (t.kind==1) (
 ab (decide ((t.n:Int)≥v)) (
  ab (decide ((t.n:Int)>(IntKind.wrap .i64 (1000000000-vby)))) (
  aa k (ei k 100) fun r1=>
  ret (Tm.mk r1.1 r1.2.1 r1.2.2 [] [] [])) (
    J0 (IntKind.wrap .i64 (t.n+vby)))) (
   J0 t.n)) (
  J0 t.n)
noncomputable def dm {S:Type}:Nat→Tm→Int→Int→Int→Int→(Tm→Option S)→Option S
 |0=>fun _ _ _ _ _ _=> .none
 |k+1=>fun t v vby d dby ret=>ED (dm k) k ret (fun b11_1=>wE (dm k) k ret t v vby d dby k b11_1) t v vby d dby
def up {S:Type} (k:Nat) (ret:Tm→Option S) (kind:Int) (kids:List Tm) (rec0:Int→Option S) (i5:Int):Option S:=
 ab (decide ((i5:Int)<(kids.length:Int))) (
 Option.bind (ae kids i5) fun x1=>
 ab (decide ((x1.kind:Int)<0)) (
  Option.bind (ae kids i5) fun x2=>
  ret (ac x2)) (
   rec0 (IntKind.wrap .i64 (i5+1)))) (
 ret (Tm.mk kind 0 ByteArray.empty [] kids []))
noncomputable def n1 {S:Type} (k:Nat) (ret:Tm→Option S) (kind:Int) (kids:List Tm):Nat→Int→Option S
 |0=>fun _=> .none
 |m+1=>fun i5=>up k ret kind kids (n1 k ret kind kids m) i5
noncomputable def yh {S:Type} (k:Nat) (ret:Tm→Option S) (J0:Int→Option S) (kind:Int) (kids:List Tm):Option S:=
 J0 0
noncomputable def qH {S:Type} (k:Nat) (kind:Int) (kids:List Tm) (ret:Tm→Option S):Option S:=yh k ret (fun i5=>n1 k ret kind kids k i5) kind kids
noncomputable def Pi {S:Type} (k:Nat) (ret:Tm→Option S) (kind:Int) (a b:Tm):Option S:=
 aa k (qH k kind [(ac a),(ac b)]) fun r1=>
 ret (ac r1)
noncomputable def la {S:Type} (k:Nat) (kind:Int) (a b:Tm) (ret:Tm→Option S):Option S:=Pi k ret kind a b
def Pc {S:Type} (k:Nat) (ret:Int→Option S) (t:Tm) (a b:Int):Option S:=
 aa k (mU k (ac t)) fun r1=>
 ab (r1==0) (
 ab (decide ((a:Int)<0)) (
  ret 2) (
  ab (decide ((b:Int)<0)) (
  ret 2) (
  ret r1))) (
 ret r1)
noncomputable def An {S:Type} (k:Nat) (t:Tm) (a b:Int) (ret:Int→Option S):Option S:=Pc k ret t a b
def Pa {S:Type} (k:Nat) (ret:Tm×Int→Option S) (t:Tm):Option S:=
 ab (decide ((t.kind:Int)<0)) (
 ret ((Tm.mk 0 0 ByteArray.empty [] [] []),IntKind.wrap .i64 (0-t.kind))) (
 ret ((ac t),0))
noncomputable def vw {S:Type} (k:Nat) (t:Tm) (ret:Tm×Int→Option S):Option S:=Pa k ret t
def O_ {S:Type} (k:Nat) (ret:Tm×Int→Option S) (t:Tm) (a_from a_by:Int):Option S:=
 aa k (An k (ac t) a_from a_by) fun r1=>
 ab (!(r1==0)) (
 ret ((Tm.mk 0 0 ByteArray.empty [] [] []),r1)) (
 ab (decide ((a_from:Int)>1000000000)) (
  dm k (ac t) 0 0 1000000000 a_by fun r2=>
  aa k (vw k (ac r2)) fun r3=>
  ret ((ac r3.1),r3.2)) (
  dm k (ac t) 0 0 a_from a_by fun r4=>
  aa k (vw k (ac r4)) fun r5=>
  ret ((ac r5.1),r5.2)))
noncomputable def vv {S:Type} (k:Nat) (t:Tm) (a_from a_by:Int) (ret:Tm×Int→Option S):Option S:=O_ k ret t a_from a_by
def tO {S:Type} (k:Nat) (ret:Int→Option S) (i:Int) (r1:List Int) (rec0:(List Int)→Int→Option S) (out6:List Int) (v7:Int):Option S:=
 ab (decide ((v7:Int)<(r1.length:Int))) (
 Option.bind (ae r1 v7) fun x2=>
 Option.bind (ae r1 v7) fun x3=>
 ab (!(x3==i)) (
  Option.bind (ae r1 v7) fun x4=>
  Option.bind (ae r1 v7) fun x5=>
  Option.bind (aq 1099511627776 out6.length [x5].length) fun x6=>
   rec0 (out6++[x5]) (IntKind.wrap .i64 (v7+1))) (
   rec0 out6 (IntKind.wrap .i64 (v7+1)))) (
 aa k (gC k out6) fun r7=>
 ret r7)
noncomputable def nG {S:Type} (k:Nat) (ret:Int→Option S) (i:Int) (r1:List Int):Nat→(List Int)→Int→Option S
 |0=>fun _ _=> .none
 |m+1=>fun out6 v7=>tO k ret i r1 (nG k ret i r1 m) out6 v7
noncomputable def Ea {S:Type} (k:Nat) (ret:Int→Option S) (J0:(List Int)→(List Int)→Int→Option S) (s i:Int):Option S:=
 aa k (gA k s) fun r1=>
 J0 r1 ([]:List Int) 0
noncomputable def fg {S:Type} (k:Nat) (s i:Int) (ret:Int→Option S):Option S:=Ea k ret (fun r1 out6 v7=>nG k ret i r1 k out6 v7) s i
def t_ {S:Type} (k:Nat) (ret:List Cl×Int→Option S) (l:List Cl) (rec0:(List Cl)→Int→Option S) (out4:List Cl) (i5:Int):Option S:=
 ab (decide ((i5:Int)<(l.length:Int))) (
 Option.bind (ae l i5) fun x1=>
 aa k (qu k x1) fun r2=>
 ab (!r2) (
  Option.bind (ae l i5) fun x3=>
  Option.bind (aq 1099511627776 out4.length [x3].length) fun x4=>
   rec0 (out4++[x3]) (IntKind.wrap .i64 (i5+1))) (
   rec0 out4 (IntKind.wrap .i64 (i5+1)))) (
 aa k (gD k out4) fun r5=>
 ret (r5.1,r5.2))
noncomputable def nS {S:Type} (k:Nat) (ret:List Cl×Int→Option S) (l:List Cl):Nat→(List Cl)→Int→Option S
 |0=>fun _ _=> .none
 |m+1=>fun out4 i5=>t_ k ret l (nS k ret l m) out4 i5
noncomputable def Es {S:Type} (k:Nat) (ret:List Cl×Int→Option S) (J0:(List Cl)→Int→Option S) (l:List Cl):Option S:=
 J0 ([]:List Cl) 0
noncomputable def k_ {S:Type} (k:Nat) (l:List Cl) (ret:List Cl×Int→Option S):Option S:=Es k ret (fun out4 i5=>nS k ret l k out4 i5) l
def O1 {S:Type} (k:Nat) (ret:List Cl×Int→Option S) (f:List Cl):Option S:=
 aa k (dJ k f) fun r1=>
 ab (!r1) (
 ret (([]:List Cl),2)) (
 aa k (k_ k f) fun r2=>
 ret (r2.1,r2.2))
noncomputable def vq {S:Type} (k:Nat) (f:List Cl) (ret:List Cl×Int→Option S):Option S:=O1 k ret f
def tZ {S:Type} (k:Nat) (ret:List Cl→Option S) (c:Cl) (rec0:(List Cl)→Int→Option S) (out3:List Cl) (i4:Int):Option S:=
 ab (decide ((i4:Int)<24)) (
 aa k (gC k [i4]) fun r1=>
 aa k (dl k c.pos i4) fun r2=>
 ab (r2) (
  Option.bind (aq 1099511627776 out3.length [(Cl.mk 0 r1)].length) fun x3=>
  aa k (dl k c.neg i4) fun r4=>
  ab (r4) (
  Option.bind (aq 1099511627776 (out3++[(Cl.mk 0 r1)]).length [(Cl.mk r1 0)].length) fun x5=>
    rec0 ((out3++[(Cl.mk 0 r1)])++[(Cl.mk r1 0)]) (IntKind.wrap .i64 (i4+1))) (
    rec0 (out3++[(Cl.mk 0 r1)]) (IntKind.wrap .i64 (i4+1)))) (
  aa k (dl k c.neg i4) fun r6=>
  ab (r6) (
  Option.bind (aq 1099511627776 out3.length [(Cl.mk r1 0)].length) fun x7=>
    rec0 (out3++[(Cl.mk r1 0)]) (IntKind.wrap .i64 (i4+1))) (
    rec0 out3 (IntKind.wrap .i64 (i4+1))))) (
 aa k (gD k out3) fun r8=>
 ret r8.1)
noncomputable def nQ {S:Type} (k:Nat) (ret:List Cl→Option S) (c:Cl):Nat→(List Cl)→Int→Option S
 |0=>fun _ _=> .none
 |m+1=>fun out3 i4=>tZ k ret c (nQ k ret c m) out3 i4
noncomputable def Em {S:Type} (k:Nat) (ret:List Cl→Option S) (J0:(List Cl)→Int→Option S) (c:Cl):Option S:=
 J0 ([]:List Cl) 0
noncomputable def vo {S:Type} (k:Nat) (c:Cl) (ret:List Cl→Option S):Option S:=Em k ret (fun out3 i4=>nQ k ret c k out3 i4) c
def OS {S:Type} (k:Nat) (ret:Int→Option S) (s i:Int):Option S:=
 ab (decide ((i:Int)<0)) (
 aa k (fg k s (-1)) fun r1=>
 ret r1) (
 ab (decide ((i:Int)≥24)) (
  aa k (fg k s (-1)) fun r2=>
  ret r2) (
  aa k (fg k s i) fun r3=>
  aa k (gA k r3) fun r4=>
  Option.bind (aq 1099511627776 r4.length [i].length) fun x5=>
  aa k (gC k (r4++[i])) fun r6=>
  ret r6))
noncomputable def qr {S:Type} (k:Nat) (s i:Int) (ret:Int→Option S):Option S:=OS k ret s i
def tU {S:Type} (k:Nat) (ret:Int→Option S) (r1:List Int) (rec0:Int→Int→Option S) (a0 i6:Int):Option S:=
 ab (decide ((i6:Int)<(r1.length:Int))) (
 Option.bind (ae r1 i6) fun x2=>
 Option.bind (ae r1 i6) fun x3=>
 aa k (qr k a0 x3) fun r4=>
  rec0 r4 (IntKind.wrap .i64 (i6+1))) (
 ret a0)
noncomputable def nM {S:Type} (k:Nat) (ret:Int→Option S) (r1:List Int):Nat→Int→Int→Option S
 |0=>fun _ _=> .none
 |m+1=>fun a0 i6=>tU k ret r1 (nM k ret r1 m) a0 i6
noncomputable def Ef {S:Type} (k:Nat) (ret:Int→Option S) (J0:(List Int)→Int→Int→Option S) (a b:Int):Option S:=
 aa k (gA k b) fun r1=>
 J0 r1 a 0
noncomputable def qx {S:Type} (k:Nat) (a b:Int) (ret:Int→Option S):Option S:=Ef k ret (fun r1 a0 i6=>nM k ret r1 k a0 i6) a b
noncomputable def OW {S:Type} (k:Nat) (ret:Cl→Option S) (a b:Cl):Option S:=
 aa k (qx k a.pos b.pos) fun r1=>
 aa k (qx k a.neg b.neg) fun r2=>
 ret (Cl.mk r1 r2)
noncomputable def qv {S:Type} (k:Nat) (a b:Cl) (ret:Cl→Option S):Option S:=OW k ret a b
def tX {S:Type} (k:Nat) (ret:List Cl×Int→Option S) (f g:List Cl) (i7:Int) (rec0:(List Cl)→Int→Option S) (rec1:(List Cl)→Int→Option S) (out6':List Cl) (v8:Int):Option S:=
 ab (decide ((v8:Int)<(g.length:Int))) (
 Option.bind (ae f i7) fun x3=>
 Option.bind (ae g v8) fun x4=>
 aa k (qv k x3 x4) fun r5=>
 Option.bind (aq 1099511627776 out6'.length [r5].length) fun x6=>
  rec1 (out6'++[r5]) (IntKind.wrap .i64 (v8+1))) (
  rec0 out6' (IntKind.wrap .i64 (i7+1)))
noncomputable def lD {S:Type} (k:Nat) (ret:List Cl×Int→Option S) (rec0:(List Cl)→Int→Option S) (f g:List Cl) (i7:Int):Nat→(List Cl)→Int→Option S
 |0=>fun _ _=> .none
 |m+1=>fun out6' v8=>tX k ret f g i7 rec0 (lD k ret rec0 f g i7 m) out6' v8
def py {S:Type} (k:Nat) (ret:List Cl×Int→Option S) (f g:List Cl) (J1:Int→(List Cl)→Int→Option S) (rec0:(List Cl)→Int→Option S) (out6:List Cl) (i7:Int):Option S:=
 ab (decide ((i7:Int)<(f.length:Int))) (
  J1 i7 out6 0) (
 aa k (gD k out6) fun r7=>
 ret (r7.1,r7.2))
noncomputable def j5 {S:Type} (k:Nat) (ret:List Cl×Int→Option S) (f g:List Cl):Nat→(List Cl)→Int→Option S
 |0=>fun _ _=> .none
 |m+1=>fun out6 i7=>py k ret f g (fun i7 out6' v8=>lD k ret (j5 k ret f g m) f g i7 k out6' v8) (j5 k ret f g m) out6 i7
def Ei {S:Type} (k:Nat) (ret:List Cl×Int→Option S) (J0:(List Cl)→Int→Option S) (f g:List Cl):Option S:=
 aa k (dJ k f) fun r1=>
 ab (!r1) (
 ret (([]:List Cl),2)) (
 aa k (dJ k g) fun r2=>
 ab (!r2) (
  ret (([]:List Cl),2)) (
   J0 ([]:List Cl) 0))
noncomputable def iC {S:Type} (k:Nat) (f g:List Cl) (ret:List Cl×Int→Option S):Option S:=Ei k ret (fun out6 i7=>j5 k ret f g k out6 i7) f g
def tY {S:Type} (k:Nat) (ret:List Cl×Int→Option S) (f:List Cl) (rec0:(List Cl)→Int→Int→Option S) (v4:List Cl) (v5 i6:Int):Option S:=
 ab (decide ((i6:Int)<(f.length:Int))) (
 ab (v5==0) (
  Option.bind (ae f i6) fun x2=>
  aa k (vo k x2) fun r3=>
  aa k (iC k v4 r3) fun r4=>
   rec0 r4.1 r4.2 (IntKind.wrap .i64 (i6+1))) (
  ret (v4,v5))) (
 ret (v4,v5))
noncomputable def nO {S:Type} (k:Nat) (ret:List Cl×Int→Option S) (f:List Cl):Nat→(List Cl)→Int→Int→Option S
 |0=>fun _ _ _=> .none
 |m+1=>fun v4 v5 i6=>tY k ret f (nO k ret f m) v4 v5 i6
def Ej {S:Type} (k:Nat) (ret:List Cl×Int→Option S) (J0:(List Cl)→Int→Int→Option S) (f:List Cl):Option S:=
 aa k (dJ k f) fun r1=>
 ab (!r1) (
 ret (([]:List Cl),2)) (
  J0 [(Cl.mk 0 0)] 0 0)
noncomputable def mS {S:Type} (k:Nat) (f:List Cl) (ret:List Cl×Int→Option S):Option S:=Ej k ret (fun v4 v5 i6=>nO k ret f k v4 v5 i6) f
def O2 {S:Type} (k:Nat) (ret:List Cl×Int→Option S) (f:List Cl):Option S:=
 aa k (mS k f) fun r1=>
 ab (!(r1.2==0)) (
 ret (([]:List Cl),r1.2)) (
 aa k (k_ k r1.1) fun r2=>
 ret (r2.1,r2.2))
noncomputable def qz {S:Type} (k:Nat) (f:List Cl) (ret:List Cl×Int→Option S):Option S:=O2 k ret f
def t6 {S:Type} (k:Nat) (ret:List Cl×Int→Option S) (f g:List Cl) (i7:Int) (rec0:(List Cl)→Int→Option S) (rec1:(List Cl)→Int→Option S) (out6':List Cl) (v8:Int):Option S:=
 ab (decide ((v8:Int)<(g.length:Int))) (
 Option.bind (ae f i7) fun x3=>
 Option.bind (ae g v8) fun x4=>
 aa k (qv k x3 x4) fun r5=>
 Option.bind (aq 1099511627776 out6'.length [r5].length) fun x6=>
  rec1 (out6'++[r5]) (IntKind.wrap .i64 (v8+1))) (
  rec0 out6' (IntKind.wrap .i64 (i7+1)))
noncomputable def lE {S:Type} (k:Nat) (ret:List Cl×Int→Option S) (rec0:(List Cl)→Int→Option S) (f g:List Cl) (i7:Int):Nat→(List Cl)→Int→Option S
 |0=>fun _ _=> .none
 |m+1=>fun out6' v8=>t6 k ret f g i7 rec0 (lE k ret rec0 f g i7 m) out6' v8
def pA {S:Type} (k:Nat) (ret:List Cl×Int→Option S) (f g:List Cl) (J1:Int→(List Cl)→Int→Option S) (rec0:(List Cl)→Int→Option S) (out6:List Cl) (i7:Int):Option S:=
 ab (decide ((i7:Int)<(f.length:Int))) (
  J1 i7 out6 0) (
 aa k (k_ k out6) fun r7=>
 ret (r7.1,r7.2))
noncomputable def j7 {S:Type} (k:Nat) (ret:List Cl×Int→Option S) (f g:List Cl):Nat→(List Cl)→Int→Option S
 |0=>fun _ _=> .none
 |m+1=>fun out6 i7=>pA k ret f g (fun i7 out6' v8=>lE k ret (j7 k ret f g m) f g i7 k out6' v8) (j7 k ret f g m) out6 i7
def Eo {S:Type} (k:Nat) (ret:List Cl×Int→Option S) (J0:(List Cl)→Int→Option S) (f g:List Cl):Option S:=
 aa k (gE k f) fun r1=>
 ab (!r1) (
 ret (([]:List Cl),2)) (
 aa k (gE k g) fun r2=>
 ab (!r2) (
  ret (([]:List Cl),2)) (
   J0 ([]:List Cl) 0))
noncomputable def jH {S:Type} (k:Nat) (f g:List Cl) (ret:List Cl×Int→Option S):Option S:=Eo k ret (fun out6 i7=>j7 k ret f g k out6 i7) f g
def O0 {S:Type} (k:Nat) (ret:List Cl×Int→Option S) (f g:List Cl):Option S:=
 aa k (gE k f) fun r1=>
 ab (!r1) (
 ret (([]:List Cl),2)) (
 aa k (gE k g) fun r2=>
 ab (!r2) (
  ret (([]:List Cl),2)) (
  Option.bind (aq 1099511627776 ([]:List Cl).length f.length) fun x3=>
  Option.bind (aq 1099511627776 (([]:List Cl)++f).length g.length) fun x4=>
  aa k (k_ k ((([]:List Cl)++f)++g)) fun r5=>
  ret (r5.1,r5.2)))
noncomputable def fh {S:Type} (k:Nat) (f g:List Cl) (ret:List Cl×Int→Option S):Option S:=O0 k ret f g
def t7 {S:Type} (k:Nat) (ret:List Cl×Int→Option S) (f:List Cl) (i:Int) (a_r:List Cl) (rec0:(List Cl)→Int→Option S) (v8:List Cl) (v9:Int):Option S:=
 ab (decide ((v9:Int)<(f.length:Int))) (
 Option.bind (ae f v9) fun x3=>
 aa k (fg k x3.pos i) fun r4=>
 aa k (fg k x3.neg i) fun r5=>
 aa k (dl k x3.pos i) fun r6=>
 ab (r6) (
  aa k (vq k a_r) fun r7=>
  aa k (dl k x3.neg i) fun r8=>
  ab (r8) (
  aa k (qz k a_r) fun r9=>
  ab (r9.2==0) (
   aa k (jH k [(Cl.mk r4 r5)] r9.1) fun r10=>
   ab (r10.2==0) (
   aa k (fh k v8 r10.1) fun r11=>
   ab (!(r11.2==0)) (
    ret (([]:List Cl),r11.2)) (
       rec0 r11.1 (IntKind.wrap .i64 (v9+1)))) (
   ab (!(r10.2==0)) (
    ret (([]:List Cl),r10.2)) (
       rec0 v8 (IntKind.wrap .i64 (v9+1))))) (
   ab (r9.2==0) (
   aa k (fh k v8 [(Cl.mk r4 r5)]) fun r12=>
   ab (!(r12.2==0)) (
    ret (([]:List Cl),r12.2)) (
       rec0 r12.1 (IntKind.wrap .i64 (v9+1)))) (
   ab (!(r9.2==0)) (
    ret (([]:List Cl),r9.2)) (
       rec0 v8 (IntKind.wrap .i64 (v9+1)))))) (
  ab (r7.2==0) (
   aa k (jH k [(Cl.mk r4 r5)] r7.1) fun r13=>
   ab (r13.2==0) (
   aa k (fh k v8 r13.1) fun r14=>
   ab (!(r14.2==0)) (
    ret (([]:List Cl),r14.2)) (
       rec0 r14.1 (IntKind.wrap .i64 (v9+1)))) (
   ab (!(r13.2==0)) (
    ret (([]:List Cl),r13.2)) (
       rec0 v8 (IntKind.wrap .i64 (v9+1))))) (
   ab (r7.2==0) (
   aa k (fh k v8 [(Cl.mk r4 r5)]) fun r15=>
   ab (!(r15.2==0)) (
    ret (([]:List Cl),r15.2)) (
       rec0 r15.1 (IntKind.wrap .i64 (v9+1)))) (
   ab (!(r7.2==0)) (
    ret (([]:List Cl),r7.2)) (
       rec0 v8 (IntKind.wrap .i64 (v9+1))))))) (
  aa k (dl k x3.neg i) fun r16=>
  ab (r16) (
  aa k (qz k a_r) fun r17=>
  ab (r17.2==0) (
   aa k (jH k [(Cl.mk r4 r5)] r17.1) fun r18=>
   ab (r18.2==0) (
   aa k (fh k v8 r18.1) fun r19=>
   ab (!(r19.2==0)) (
    ret (([]:List Cl),r19.2)) (
       rec0 r19.1 (IntKind.wrap .i64 (v9+1)))) (
   ab (!(r18.2==0)) (
    ret (([]:List Cl),r18.2)) (
       rec0 v8 (IntKind.wrap .i64 (v9+1))))) (
   ab (r17.2==0) (
   aa k (fh k v8 [(Cl.mk r4 r5)]) fun r20=>
   ab (!(r20.2==0)) (
    ret (([]:List Cl),r20.2)) (
       rec0 r20.1 (IntKind.wrap .i64 (v9+1)))) (
   ab (!(r17.2==0)) (
    ret (([]:List Cl),r17.2)) (
       rec0 v8 (IntKind.wrap .i64 (v9+1)))))) (
  aa k (jH k [(Cl.mk r4 r5)] [(Cl.mk 0 0)]) fun r21=>
  ab (r21.2==0) (
   aa k (fh k v8 r21.1) fun r22=>
   ab (!(r22.2==0)) (
   ret (([]:List Cl),r22.2)) (
      rec0 r22.1 (IntKind.wrap .i64 (v9+1)))) (
   ab (!(r21.2==0)) (
   ret (([]:List Cl),r21.2)) (
      rec0 v8 (IntKind.wrap .i64 (v9+1))))))) (
 ret (v8,0))
noncomputable def lG {S:Type} (k:Nat) (ret:List Cl×Int→Option S) (f:List Cl) (i:Int) (a_r:List Cl):Nat→(List Cl)→Int→Option S
 |0=>fun _ _=> .none
 |m+1=>fun v8 v9=>t7 k ret f i a_r (lG k ret f i a_r m) v8 v9
def Ep {S:Type} (k:Nat) (ret:List Cl×Int→Option S) (J0:(List Cl)→Int→Option S) (f:List Cl) (i:Int) (a_r:List Cl):Option S:=
 aa k (gE k f) fun r1=>
 ab (!r1) (
 ret (([]:List Cl),2)) (
 ab (decide ((i:Int)<0)) (
  ret (([]:List Cl),2)) (
  ab (decide ((i:Int)≥24)) (
  ret (([]:List Cl),2)) (
  aa k (dJ k a_r) fun r2=>
  ab (!r2) (
   ret (([]:List Cl),2)) (
     J0 [] 0))))
noncomputable def vr {S:Type} (k:Nat) (f:List Cl) (i:Int) (a_r:List Cl) (ret:List Cl×Int→Option S):Option S:=Ep k ret (fun v8 v9=>lG k ret f i a_r k v8 v9) f i a_r
def OY {S:Type} (k:Nat) (ret:List Cl×Int→Option S) (f g:List Cl):Option S:=
 aa k (dJ k f) fun r1=>
 ab (!r1) (
 ret (([]:List Cl),2)) (
 aa k (dJ k g) fun r2=>
 ab (!r2) (
  ret (([]:List Cl),2)) (
  Option.bind (aq 1099511627776 ([]:List Cl).length f.length) fun x3=>
  Option.bind (aq 1099511627776 (([]:List Cl)++f).length g.length) fun x4=>
  aa k (gD k ((([]:List Cl)++f)++g)) fun r5=>
  ret (r5.1,r5.2)))
noncomputable def vm {S:Type} (k:Nat) (f g:List Cl) (ret:List Cl×Int→Option S):Option S:=OY k ret f g
def zE {S:Type} (k:Nat) (ret:List Cl×Int→Option S) (f:List Cl) (i:Int) (a_r v8:List Cl) (v9:Int) (rec0:(List Cl)→Int→Option S) (g11:List Cl) (v12:Int):Option S:=
 ab (v12==0) (
 aa k (vm k v8 g11) fun r11=>
 ab (!(r11.2==0)) (
  ret (([]:List Cl),r11.2)) (
   rec0 r11.1 (IntKind.wrap .i64 (v9+1)))) (
 ab (!(v12==0)) (
  ret (([]:List Cl),v12)) (
   rec0 v8 (IntKind.wrap .i64 (v9+1))))
noncomputable def nP {S:Type} (k:Nat) (ret:List Cl×Int→Option S) (rec0:(List Cl)→Int→Option S) (f:List Cl) (i:Int) (a_r v8:List Cl) (v9:Int):Nat→(List Cl)→Int→Option S
 |0=>fun _ _=> .none
 |_+1=>fun g11 v12=>zE k ret f i a_r v8 v9 rec0 g11 v12
def pz {S:Type} (k:Nat) (ret:List Cl×Int→Option S) (f:List Cl) (i:Int) (a_r:List Cl) (J1:(List Cl)→Int→(List Cl)→Int→Option S) (rec0:(List Cl)→Int→Option S) (v8:List Cl) (v9:Int):Option S:=
 ab (decide ((v9:Int)<(f.length:Int))) (
 Option.bind (ae f v9) fun x3=>
 aa k (fg k x3.pos i) fun r4=>
 aa k (fg k x3.neg i) fun r5=>
 aa k (dl k x3.pos i) fun r6=>
 ab (r6) (
  aa k (iC k [(Cl.mk r4 r5)] a_r) fun r7=>
  ab (r7.2==0) (
  aa k (dl k x3.neg i) fun r8=>
  ab (r8) (
   aa k (mS k a_r) fun r9=>
   ab (r9.2==0) (
   aa k (iC k r7.1 r9.1) fun r10=>
      J1 v8 v9 r10.1 r10.2) (
      J1 v8 v9 r7.1 r9.2)) (
     J1 v8 v9 r7.1 r7.2)) (
    J1 v8 v9 r7.1 r7.2)) (
  aa k (dl k x3.neg i) fun r12=>
  ab (r12) (
  aa k (mS k a_r) fun r13=>
  ab (r13.2==0) (
   aa k (iC k [(Cl.mk r4 r5)] r13.1) fun r14=>
     J1 v8 v9 r14.1 r14.2) (
     J1 v8 v9 [(Cl.mk r4 r5)] r13.2)) (
    J1 v8 v9 [(Cl.mk r4 r5)] 0))) (
 ret (v8,0))
noncomputable def j6 {S:Type} (k:Nat) (ret:List Cl×Int→Option S) (f:List Cl) (i:Int) (a_r:List Cl):Nat→(List Cl)→Int→Option S
 |0=>fun _ _=> .none
 |m+1=>fun v8 v9=>pz k ret f i a_r (fun v8 v9 g11 v12=>nP k ret (j6 k ret f i a_r m) f i a_r v8 v9 k g11 v12) (j6 k ret f i a_r m) v8 v9
def Ek {S:Type} (k:Nat) (ret:List Cl×Int→Option S) (J0:(List Cl)→Int→Option S) (f:List Cl) (i:Int) (a_r:List Cl):Option S:=
 aa k (dJ k f) fun r1=>
 ab (!r1) (
 ret (([]:List Cl),2)) (
 aa k (dJ k a_r) fun r2=>
 ab (!r2) (
  ret (([]:List Cl),2)) (
  ab (decide ((i:Int)<0)) (
  ret (([]:List Cl),2)) (
  ab (decide ((i:Int)≥24)) (
   ret (([]:List Cl),2)) (
     J0 [] 0))))
noncomputable def vn {S:Type} (k:Nat) (f:List Cl) (i:Int) (a_r:List Cl) (ret:List Cl×Int→Option S):Option S:=Ek k ret (fun v8 v9=>j6 k ret f i a_r k v8 v9) f i a_r
def Pe {S:Type} (k:Nat) (ret:List Cl×Int→Option S) (f:List Cl) (isFace:Bool) (i:Int) (a_r:List Cl) (depth:Int):Option S:=
 aa k (qy k f) fun r1=>
 aa k (dl k r1 (IntKind.wrap .i64 (i+depth))) fun r2=>
 ab (!r2) (
 ret (f,0)) (
 aa k (jG k a_r 0 depth) fun r3=>
 ab (!(r3.2==0)) (
  ret (([]:List Cl),r3.2)) (
  ab (isFace) (
  aa k (vr k f (IntKind.wrap .i64 (i+depth)) r3.1) fun r4=>
  ret (r4.1,r4.2)) (
  aa k (vn k f (IntKind.wrap .i64 (i+depth)) r3.1) fun r5=>
  ret (r5.1,r5.2))))
noncomputable def qF {S:Type} (k:Nat) (f:List Cl) (isFace:Bool) (i:Int) (a_r:List Cl) (depth:Int) (ret:List Cl×Int→Option S):Option S:=Pe k ret f isFace i a_r depth
def tL {S:Type} (k:Nat) (ret:Int→Option S) (i:Int) (rec0:(List Int)→Int→Option S) (l5:List Int) (v6:Int):Option S:=
 ab (decide ((v6:Int)<(l5.length:Int))) (
 ab (decide ((i:Int)≥0)) (
  Option.bind (ae l5 v6) fun x3=>
  Option.bind (ae l5 v6) fun x4=>
  ab (decide ((x4:Int)>i)) (
  Option.bind (ae l5 v6) fun x5=>
  Option.bind (ae l5 v6) fun x6=>
  Option.bind (ae l5 v6) fun x7=>
  Option.bind (ae l5 v6) fun x8=>
    rec0 (l5.set (Int.toNat v6) (IntKind.wrap .i64 (x6-1))) (IntKind.wrap .i64 (v6+1))) (
    rec0 l5 (IntKind.wrap .i64 (v6+1)))) (
   rec0 l5 (IntKind.wrap .i64 (v6+1)))) (
 aa k (gC k l5) fun r9=>
 ret r9)
noncomputable def lx {S:Type} (k:Nat) (ret:Int→Option S) (i:Int):Nat→(List Int)→Int→Option S
 |0=>fun _ _=> .none
 |m+1=>fun l5 v6=>tL k ret i (lx k ret i m) l5 v6
noncomputable def D8 {S:Type} (k:Nat) (ret:Int→Option S) (J0:(List Int)→Int→Option S) (s i:Int):Option S:=
 aa k (fg k s i) fun r1=>
 aa k (gA k r1) fun r2=>
 J0 r2 0
noncomputable def mP {S:Type} (k:Nat) (s i:Int) (ret:Int→Option S):Option S:=D8 k ret (fun l5 v6=>lx k ret i k l5 v6) s i
def um {S:Type} (k:Nat) (ret:List Cl→Option S) (f:List Cl) (i:Int) (rec0:(List Cl)→Int→Option S) (out5:List Cl) (v6:Int):Option S:=
 ab (decide ((v6:Int)<(f.length:Int))) (
 Option.bind (ae f v6) fun x1=>
 aa k (mP k x1.pos i) fun r2=>
 Option.bind (ae f v6) fun x3=>
 aa k (mP k x3.neg i) fun r4=>
 Option.bind (aq 1099511627776 out5.length [(Cl.mk r2 r4)].length) fun x5=>
  rec0 (out5++[(Cl.mk r2 r4)]) (IntKind.wrap .i64 (v6+1))) (
 aa k (gD k out5) fun r6=>
 ret r6.1)
noncomputable def nZ {S:Type} (k:Nat) (ret:List Cl→Option S) (f:List Cl) (i:Int):Nat→(List Cl)→Int→Option S
 |0=>fun _ _=> .none
 |m+1=>fun out5 v6=>um k ret f i (nZ k ret f i m) out5 v6
noncomputable def EE {S:Type} (k:Nat) (ret:List Cl→Option S) (J0:(List Cl)→Int→Option S) (f:List Cl) (i:Int):Option S:=
 J0 ([]:List Cl) 0
noncomputable def qE {S:Type} (k:Nat) (f:List Cl) (i:Int) (ret:List Cl→Option S):Option S:=EE k ret (fun out5 v6=>nZ k ret f i k out5 v6) f i
abbrev fM (S:Type):=Tm→Int→(List Cl)→Int→Bool→(Tm→Option S)→Option S
def uo {S:Type} (hd:fM S) (k:Nat) (ret:Tm→Option S) (t:Tm) (b11_3:List Cl) (b11_4:List Tm) (b11_5:List (Br Tm)) (i v18:Int) (a_r:List Cl) (depth:Int) (drop:Bool) (rec1:(List (Br Tm))→Int→Option S) (rec2:(List Cl)→(List Tm)→Int→Option S) (b21_0:List Cl) (b21_1:List Tm) (v22:Int):Option S:=
 Option.bind (ae t.sys v18) fun x12=>
 ab (decide ((v22:Int)<(x12.kids.length:Int))) (
 Option.bind (ae t.sys v18) fun x13=>
 Option.bind (ae x13.kids v22) fun x14=>
 aa k (mV k t.kind) fun r15=>
 hd (ac x14) i a_r (IntKind.wrap .i64 (depth+r15)) drop fun r16=>
 ab (decide ((r16.kind:Int)<0)) (
  ret (ac r16)) (
  Option.bind (aq 1099511627776 b21_1.length [(ac r16)].length) fun x17=>
   rec2 b21_0 (b21_1++[(ac r16)]) (IntKind.wrap .i64 (v22+1)))) (
 Option.bind (aq 1099511627776 b11_5.length [(Br.mk b21_0 b21_1)].length) fun x18=>
  rec1 (b11_5++[(Br.mk b21_0 b21_1)]) (IntKind.wrap .i64 (v18+1)))
noncomputable def ja {S:Type} (hd:fM S) (k:Nat) (ret:Tm→Option S) (rec1:(List (Br Tm))→Int→Option S) (t:Tm) (b11_3:List Cl) (b11_4:List Tm) (b11_5:List (Br Tm)) (i v18:Int) (a_r:List Cl) (depth:Int) (drop:Bool):Nat→(List Cl)→(List Tm)→Int→Option S
 |0=>fun _ _ _=> .none
 |m+1=>fun b21_0 b21_1 v22=>uo hd k ret t b11_3 b11_4 b11_5 i v18 a_r depth drop rec1 (ja hd k ret rec1 t b11_3 b11_4 b11_5 i v18 a_r depth drop m) b21_0 b21_1 v22
def pT {S:Type} (hd:fM S) (k:Nat) (ret:Tm→Option S) (t:Tm) (b11_3:List Cl) (b11_4:List Tm) (i:Int) (a_r:List Cl) (depth:Int) (drop:Bool) (J2:(List (Br Tm))→Int→(List Cl)→(List Tm)→Int→Option S) (rec1:(List (Br Tm))→Int→Option S) (b11_5:List (Br Tm)) (v18:Int):Option S:=
 ab (decide ((v18:Int)<(t.sys.length:Int))) (
 Option.bind (ae t.sys v18) fun x8=>
 aa k (qF k x8.face true i a_r depth) fun r9=>
 ab (!(r9.2==0)) (
  aa k (ei k r9.2) fun r10=>
  ret (Tm.mk r10.1 r10.2.1 r10.2.2 [] [] [])) (
  ab ((r9.1.length:Int)==0) (
    rec1 b11_5 (IntKind.wrap .i64 (v18+1))) (
  ab (drop) (
   aa k (qE k r9.1 (IntKind.wrap .i64 (i+depth))) fun r11=>
     J2 b11_5 v18 r11 ([]:List Tm) 0) (
     J2 b11_5 v18 r9.1 ([]:List Tm) 0)))) (
 ret (Tm.mk t.kind t.n t.name b11_3 b11_4 b11_5))
noncomputable def f0 {S:Type} (hd:fM S) (k:Nat) (ret:Tm→Option S) (t:Tm) (b11_3:List Cl) (b11_4:List Tm) (i:Int) (a_r:List Cl) (depth:Int) (drop:Bool):Nat→(List (Br Tm))→Int→Option S
 |0=>fun _ _=> .none
 |m+1=>fun b11_5 v18=>pT hd k ret t b11_3 b11_4 i a_r depth drop (fun b11_5 v18 b21_0 b21_1 v22=>ja hd k ret (f0 hd k ret t b11_3 b11_4 i a_r depth drop m) t b11_3 b11_4 b11_5 i v18 a_r depth drop k b21_0 b21_1 v22) (f0 hd k ret t b11_3 b11_4 i a_r depth drop m) b11_5 v18
def pS {S:Type} (hd:fM S) (k:Nat) (ret:Tm→Option S) (t:Tm) (i:Int) (a_r:List Cl) (depth:Int) (drop:Bool) (J1:(List Cl)→(List Tm)→(List (Br Tm))→Int→Option S) (rec0:(List Cl)→(List Tm)→Int→Option S) (b11_3:List Cl) (b11_4:List Tm) (v14:Int):Option S:=
 ab (decide ((v14:Int)<(t.kids.length:Int))) (
 aa k (mT k t.kind v14) fun r4=>
 Option.bind (ae t.kids v14) fun x5=>
 hd (ac x5) i a_r (IntKind.wrap .i64 (depth+r4.2)) drop fun r6=>
 ab (decide ((r6.kind:Int)<0)) (
  ret (ac r6)) (
  Option.bind (aq 1099511627776 b11_4.length [(ac r6)].length) fun x7=>
   rec0 b11_3 (b11_4++[(ac r6)]) (IntKind.wrap .i64 (v14+1)))) (
  J1 b11_3 b11_4 ([]:List (Br Tm)) 0)
noncomputable def j_ {S:Type} (hd:fM S) (k:Nat) (ret:Tm→Option S) (t:Tm) (i:Int) (a_r:List Cl) (depth:Int) (drop:Bool):Nat→(List Cl)→(List Tm)→Int→Option S
 |0=>fun _ _ _=> .none
 |m+1=>fun b11_3 b11_4 v14=>pS hd k ret t i a_r depth drop (fun b11_3 b11_4 b11_5 v18=>f0 hd k ret t b11_3 b11_4 i a_r depth drop k b11_5 v18) (j_ hd k ret t i a_r depth drop m) b11_3 b11_4 v14
def EF {S:Type} (hd:fM S) (k:Nat) (ret:Tm→Option S) (J0:(List Cl)→(List Tm)→Int→Option S) (t:Tm) (i:Int) (a_r:List Cl) (depth:Int) (drop:Bool):Option S:=
 aa k (qF k t.r (t.kind==14) i a_r depth) fun r1=>
 ab (!(r1.2==0)) (
 aa k (ei k r1.2) fun r2=>
 ret (Tm.mk r2.1 r2.2.1 r2.2.2 [] [] [])) (
 ab (drop) (
  aa k (qE k r1.1 (IntKind.wrap .i64 (i+depth))) fun r3=>
   J0 r3 ([]:List Tm) 0) (
   J0 r1.1 ([]:List Tm) 0))
noncomputable def eP {S:Type}:Nat→Tm→Int→(List Cl)→Int→Bool→(Tm→Option S)→Option S
 |0=>fun _ _ _ _ _ _=> .none
 |k+1=>fun t i a_r depth drop ret=>EF (eP k) k ret (fun b11_3 b11_4 v14=>j_ (eP k) k ret t i a_r depth drop k b11_3 b11_4 v14) t i a_r depth drop
def Pd {S:Type} (k:Nat) (ret:Tm→Option S) (t:Tm) (i:Int) (a_r:List Cl):Option S:=
 ab (decide ((t.kind:Int)<0)) (
 ret (ac t)) (
 aa k (jG k a_r i 1) fun r1=>
 ab (!(r1.2==0)) (
  aa k (ei k r1.2) fun r2=>
  ret (Tm.mk r2.1 r2.2.1 r2.2.2 [] [] [])) (
  eP k (ac t) i r1.1 0 true fun r3=>
  ret (ac r3)))
noncomputable def vz {S:Type} (k:Nat) (t:Tm) (i:Int) (a_r:List Cl) (ret:Tm→Option S):Option S:=Pd k ret t i a_r
def Pf {S:Type} (k:Nat) (ret:Tm→Option S) (t:Tm) (f:List Cl) (kid:Tm):Option S:=
 ab (decide ((t.kind:Int)<0)) (
 ret (ac t)) (
 ab (decide ((kid.kind:Int)<0)) (
  ret (ac kid)) (
  Option.bind (aq 1099511627776 ([]:List (Br Tm)).length t.sys.length) fun x1=>
  Option.bind (aq 1099511627776 (([]:List (Br Tm))++t.sys).length [(Br.mk f [(ac kid)])].length) fun x2=>
  ret (Tm.mk t.kind t.n t.name t.r t.kids ((([]:List (Br Tm))++t.sys)++[(Br.mk f [(ac kid)])]))))
noncomputable def qG {S:Type} (k:Nat) (t:Tm) (f:List Cl) (kid:Tm) (ret:Tm→Option S):Option S:=Pf k ret t f kid
def Pg {S:Type} (k:Nat) (ret:Tm×Int→Option S) (t:Tm):Option S:=
 ab (decide ((t.kind:Int)<0)) (
 ret ((Tm.mk 0 0 ByteArray.empty [] [] []),IntKind.wrap .i64 (0-t.kind))) (
 aa k (mU k (ac t)) fun r1=>
 ab (!(r1==0)) (
  ret ((Tm.mk 0 0 ByteArray.empty [] [] []),r1)) (
  ret ((ac t),0)))
noncomputable def vA {S:Type} (k:Nat) (t:Tm) (ret:Tm×Int→Option S):Option S:=Pg k ret t
abbrev SC (S:Type):=Tm→Int→(Int→Option S)→Option S
abbrev SD (S:Type):=Tm→Int→Tm→Int→Int→(Tm→Option S)→Option S
def EG {S:Type} (k:Nat) (ret:Tm×Bool×Int→Option S) (t out:Tm):Option S:=
 ab (out.kind==0) (
 ret ((Tm.mk 0 0 ByteArray.empty [] [] []),false,0)) (
 aa k (vA k (ac out)) fun r1=>
 ret ((ac r1.1),r1.2==0,r1.2))
noncomputable def mX {S:Type} (k:Nat) (t out:Tm) (ret:Tm×Bool×Int→Option S):Option S:=EG k ret t out
def Pl {S:Type} (k:Nat) (ret:Tm→Option S) (phi:List Cl) (line a:Tm):Option S:=
 aa k (la k 14 (ac line) (ac a)) fun r1=>
 ab (decide ((r1.kind:Int)≥0)) (
 ret (Tm.mk r1.kind r1.n r1.name phi r1.kids r1.sys)) (
 ret (ac r1))
noncomputable def iD {S:Type} (k:Nat) (phi:List Cl) (line a:Tm) (ret:Tm→Option S):Option S:=Pl k ret phi line a
noncomputable def Ph {S:Type} (k:Nat) (ret:Tm→Option S) (kind:Int) (a:Tm):Option S:=
 aa k (qH k kind [(ac a)]) fun r1=>
 ret (ac r1)
noncomputable def vB {S:Type} (k:Nat) (kind:Int) (a:Tm) (ret:Tm→Option S):Option S:=Ph k ret kind a
def Pk {S:Type} (k:Nat) (ret:Tm→Option S) (t:Tm) (a_by:Int):Option S:=
 ab (decide ((t.kind:Int)<0)) (
 ret (ac t)) (
 aa k (vv k (ac t) 1 a_by) fun r1=>
 ab (!(r1.2==0)) (
  aa k (ei k r1.2) fun r2=>
  ret (Tm.mk r2.1 r2.2.1 r2.2.2 [] [] [])) (
  ret (ac r1.1)))
noncomputable def vE {S:Type} (k:Nat) (t:Tm) (a_by:Int) (ret:Tm→Option S):Option S:=Pk k ret t a_by
def pU {S:Type} (k:Nat) (ret:Tm→Option S) (t x2 x3:Tm) (rec0:Tm→Int→Option S) (b6:Tm) (i7:Int):Option S:=
 ab (decide ((i7:Int)<(x3.sys.length:Int))) (
 ab (decide ((b6.kind:Int)≥0)) (
  aa k (jG k t.r 0 1) fun r12=>
  ab (!(r12.2==0)) (
  aa k (ei k r12.2) fun r13=>
  ret (Tm.mk r13.1 r13.2.1 r13.2.2 [] [] [])) (
  Option.bind (ae x3.sys i7) fun x14=>
  aa k (vE k (ac x2) 1) fun r15=>
  Option.bind (ae x3.sys i7) fun x16=>
  Option.bind (ae x16.kids 0) fun x17=>
  aa k (iD k r12.1 (ac r15) (ac x17)) fun r18=>
  aa k (qG k (ac b6) x14.face (ac r18)) fun r19=>
    rec0 (ac r19) (IntKind.wrap .i64 (i7+1)))) (
  ret (ac b6))) (
 ret (ac b6))
noncomputable def kc {S:Type} (k:Nat) (ret:Tm→Option S) (t x2 x3:Tm):Nat→Tm→Int→Option S
 |0=>fun _ _=> .none
 |m+1=>fun b6 i7=>pU k ret t x2 x3 (kc k ret t x2 x3 m) b6 i7
def EH {S:Type} (k:Nat) (ret:Tm→Option S) (J0:Tm→Tm→Tm→Int→Option S) (t:Tm):Option S:=
 ab (!(t.kind==14)) (
 ret (Tm.mk 0 0 ByteArray.empty [] [] [])) (
 Option.bind (ae t.kids 0) fun x1=>
 ab (!(x1.kind==23)) (
  ret (Tm.mk 0 0 ByteArray.empty [] [] [])) (
  Option.bind (ae t.kids 0) fun x2=>
  Option.bind (ae t.kids 1) fun x3=>
  ab (x3.kind==24) (
  ret (ac x3)) (
  ab (x3.kind==25) (
   ret (ac x3)) (
   ab (x3.kind==26) (
   Option.bind (ae x2.kids 0) fun x4=>
   Option.bind (ae x3.kids 0) fun x5=>
   aa k (iD k t.r (ac x4) (ac x5)) fun r6=>
   aa k (vB k 26 (ac r6)) fun r7=>
   ret (Tm.mk r7.kind r7.n r7.name x3.r r7.kids r7.sys)) (
   ab (!(x3.kind==15)) (
    ret (Tm.mk 0 0 ByteArray.empty [] [] [])) (
    aa k (vz k (ac x2) 0 [(Cl.mk 0 0)]) fun r8=>
    Option.bind (ae x3.kids 1) fun x9=>
    aa k (iD k t.r (ac x2) (ac x9)) fun r10=>
    aa k (la k 15 (ac r8) (ac r10)) fun r11=>
       J0 x2 x3 (ac r11) 0))))))
noncomputable def vD {S:Type} (k:Nat) (t:Tm) (ret:Tm→Option S):Option S:=EH k ret (fun x2 x3 b6 i7=>kc k ret t x2 x3 k b6 i7) t
def Pj {S:Type} (k:Nat) (ret:Tm×Bool×Int→Option S) (t:Tm):Option S:=
 aa k (mU k (ac t)) fun r1=>
 ab (!(r1==0)) (
 ret ((Tm.mk 0 0 ByteArray.empty [] [] []),false,r1)) (
 aa k (vD k (ac t)) fun r2=>
 aa k (mX k (ac t) (ac r2)) fun r3=>
 ret ((ac r3.1),r3.2.1,r3.2.2))
noncomputable def vC {S:Type} (k:Nat) (t:Tm) (ret:Tm×Bool×Int→Option S):Option S:=Pj k ret t
def Ot {S:Type} (k:Nat) (ret:Bool→Option S) (t:Tm):Option S:=
 aa k (Al k (ac t)) fun r1=>
 ab (r1) (
 aa k (qm k) fun r2=>
 ret r2) (
 gF k (ac t) fun r3=>
 aa k (ql k (ac r3)) fun r4=>
 aa k (vC k (ac t)) fun r5=>
 dC k (ac r4.1) (ac r5.1) fun r6=>
 ab (r6) (
  ab (r4.2.1==r5.2.1) (
  ab (r4.2.2==r5.2.2) (
   dC k (ac r3) (ac t) fun r7=>
   ab (r7) (
   aa k (qm k) fun r8=>
   ret r8) (
   ret false)) (
   ret false)) (
  ret false)) (
  ret false))
noncomputable def Ak {S:Type} (k:Nat) (t:Tm) (ret:Bool→Option S):Option S:=Ot k ret t
end
end Go.Proofs.YtehekgbehghgdaaGreatDoor
