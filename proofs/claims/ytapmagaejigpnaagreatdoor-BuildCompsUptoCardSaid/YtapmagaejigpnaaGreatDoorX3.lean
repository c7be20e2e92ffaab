/- Part 3 of a proof: the sources, with their names and remarks, lie in wip/. -/
import Derived.Test.YtapmagaejigpnaaGreatDoorX2
import Derived.Recover
import Derived.Orders
import Derived.Test.YtapmagaejigpnaaGreatDoorProg
import Derived.KernelRfl
namespace Go.Proofs.YtapmagaejigpnaaGreatDoor.PI
open Go
section
variable {U:Uni} {R:Type} (V:Env U) (S:Side U) (C:Oracle U R) (ann:Nat→Option Ann) (fuel:Nat)
def NC (o:Oper):Option Tmp:=
 match o.dst,o.op,o.guard with
 |some d,.call c,.none=>match c.callee with
  | .builtin .recover=>some d
  |_=> .none
 |_,_,_=> .none
def NS (v:PV U):Code→St U→(Ex U→St U→Option R)→Option R
 | .seq (.region _ ops draw) b,σ,κ=>match ops.toList with
  |o::more=>match NC o with
   |some d=>bif !draw&&(Nat.blt d S.nt&&more.all (bq S.nt)) then qz V S C ops.toList more [] (σ.setR d v) fun
     | .normal,σ',_=>run V S C ann fuel b σ' κ
     |_,_,_=> .none
    else .none
   | .none=> .none
  |[]=> .none
 |_,_,_=> .none
def EU (keep:Bool) (hand:List Bool) (fn:Func) (v:PV U) (args:List (PV U)) (boxes:List (Box U)) (κ:Out U→Option R):Option R:=
 NS V S C ann fuel v (f_ fn) (gF args boxes) (kF V C keep hand fn boxes.length κ)
def B9:List Oper→Option (Oper×Tmp)
 |[o,q]=>match o.dst,o.guard,q.dst,q.op,q.guard with
  |some m,.none,.none,.defer c,.none=>match c.callee with
   | .value (.tmp n)=>bif Nat.beq m n&&c.args.isEmpty then some (o,n) else .none
   |_=> .none
  |_,_,_,_,_=> .none
 |_=> .none
def PV.pinned:PV U→Bool
 | .ptr id _=>Nat.ble 1000000 id
 |_=>false
def nL:Code→St U→(Ex U→St U→Option R)→(FuncId→List (PV U)→Ex U→St U→Option R)→Option R
 | .seq a b,σ,κ0,κ1=>match a with
  | .region id ops draw=>match B9 ops.toList with
   |some (o,n)=>bif !draw&&bq S.nt o then (bH V S o).cps C σ [] fun
     | .done,σ',_=>match σ'.r n with
      | .func h [] caps=>bif caps.all PV.pinned then run V {S with pin:=fun _=>false} C ann fuel b σ' (κ1 h caps) else .none
      |_=> .none
     |_,_,_=> .none
    else .none
   | .none=>run V S C ann fuel (.region id ops draw) σ fun
    | .normal,σ'=>nL b σ' κ0 κ1
    |e,σ'=>κ0 e σ'
  |a=>run V S C ann fuel a σ fun
   | .normal,σ'=>nL b σ' κ0 κ1
   |e,σ'=>κ0 e σ'
 |_,_,_,_=> .none
def kD (Cd:PV U→Oracle U R) (keep:Bool) (hand:List Bool) (fn:Func) (nb:Nat) (κ:Out U→Option R) (h:FuncId) (caps:List (PV U)):Ex U→St U→Option R
 | .normal,σ=>(g0 (PV.idsL caps) fun _=>iG [] .none (.func h [] caps) []).cps (Cd .nilIface) σ [] fun
  | .done,σ',_=>(jr V keep hand fn.results.toList nb).cps C σ' [] (fin κ)
  |_,_,_=> .none
 | .ret,σ=>(g0 (PV.idsL caps) fun _=>iG [] .none (.func h [] caps) []).cps (Cd .nilIface) σ [] fun
  | .done,σ',_=>(jr V keep hand fn.results.toList nb).cps C σ' [] (fin κ)
  |_,_,_=> .none
 | .panic v,σ=>match v with
  | .iface t (.int k n)=>(g0 (PV.idsL caps) fun _=>iG [] .none (.func h [] caps) []).cps (Cd (.iface t (.int k n))) σ [] fun
   | .done,σ',_=>(jr V keep hand fn.results.toList nb).cps C σ' [] (fin κ)
   |_,_,_=> .none
  |_=> .none
 | .exit _,_=> .none
def Jk:Code→List Bool→List (St U→Option R)→(Nat→Option Ann)→(Ex U→St U→Option R)→(FuncId→List (PV U)→Ex U→St U→Option R)→Ex U→St U→Option R
 | .seq a b,false::p,rs,an,κ0,κ1=>lu V S C ann fuel a p rs an fun
  | .normal,σ'=>nL V S C ann fuel b σ' κ0 κ1
  |e,σ'=>κ0 e σ'
 | .seq _ b,true::p,rs,an,κ0,κ1=>Jk b p rs an κ0 κ1
 |_,_,_,_,κ0,_=>κ0
def ES (Cd:PV U→Oracle U R) (keep:Bool) (hand:List Bool) (fn:Func) (args:List (PV U)) (boxes:List (Box U)) (κ:Out U→Option R):Option R:=
 nL V S C ann fuel (f_ fn) (gF args boxes) (kF V C keep hand fn boxes.length κ) (kD V C Cd keep hand fn boxes.length κ)
end
end Go.Proofs.YtapmagaejigpnaaGreatDoor.PI
namespace Go.Proofs.YtapmagaejigpnaaGreatDoor.PI
open Go
set_option linter.unusedVariables false
set_option linter.unusedSimpArgs false
section
variable {U:Uni} {V:Env U} {P:Program} {X:Link V P}
inductive RcvOK:PV U→FrameMode→FrameMode→Prop
 |nil:RcvOK .nilIface .returning .returning
 |err (t:TypeId) (k:IntKind) (n:Int):RcvOK (.iface t (.int k n)) (.panicking [{v:= .iface t (.int k n),recovered:=false}]) (.panicking [{v:= .iface t (.int k n),recovered:=true}])
def kG (P:Program) (u u':FrameMode):FuncId→Array Value→World→(Ending→World→Prop)→Prop:=fun f vs w R=>CallsD P f vs u w fun e u2 w'=>u2=u'∧R e w'
theorem agO {ops:Array Oper} {cs:List Frame} {Q:Exit→Act→List Frame→World→Prop} (hQ: ¬LetsOut (fun e a' w'=>Q e a' cs w')): ∀ (l:List Nat) (a:Act) (w:World),wpOps P ops (fun e a' w'=>Q e a' cs w') l a w→wpOpsS P ops Q l a cs w:=by
 intro l
 induction l with
 |nil=>intro a w h;exact h
 |cons i l ih=>
  intro a w h
  simp only [wpOps,wpOpsS] at h ⊢
  cases ho:ops[i]? with
  |none=>rw [ho] at h;exact ih _ _ h
  |some o=>
   rw [ho] at h
   simp only at h ⊢
   split
   ·rename_i hw
    rw [if_pos hw] at h
    have h:=h.resolve_right fun h=>hQ h.2
    have h:=Oper.wp_mono ih h
    unfold Oper.wp at h
    split
    ·rename_i w' hrun
     rw [hrun] at h
     exact h.elim
    ·exact h
   ·rename_i hw
    rw [if_neg hw] at h
    exact ih _ _ h
theorem aee (hm:P.follows .mixedOrders=true) (hI:kH X) {S:Side U} (hS:S.rcv=none) (hpin:S.pin=fun _=>false) {R:Type} {C:Oracle U R} (hC:C.Tells (ca X)) {f:FuncId} {fn:Func} (hf:P.funcs[f]? =some fn)
  (hname:(fn.name== "runtime.NumGoroutine")=false) (hbody:fn.body.isNone=false) (hnt:fn.ntmps=S.nt) (hlow:S.nt≤1000000) {v:PV U} {u u':FrameMode} (hv:RcvOK v u u') {args:List (PV U)} {boxes:List (Box U)} (hargs:args.length≤S.nt)
  {ann:Nat→Option Ann} {fuel:Nat} {keep:Bool} {hand:List Bool} {κ:Out U→Option R} {x:R} (h:EU V S C ann fuel keep hand fn v args boxes κ=some x): ∃out,κ out=some x∧jE X (kG P u u') f args boxes out:=by
 obtain ⟨code,hcode⟩: ∃code,fn.body=some code:=by
  cases hb:fn.body with
  |none=>rw [hb] at hbody;cases hbody
  |some code=>exact ⟨code,rfl⟩
 unfold EU f_ at h
 rw [hcode] at h
 simp only at h
 unfold NS at h
 split at h
 case h_2=>cases h
 rename_i id ops draw b
 split at h
 case h_2=>cases h
 rename_i o more hops
 split at h
 case h_2=>cases h
 rename_i d hrec
 cases hc:(!draw&&(Nat.blt d S.nt&&more.all (bq S.nt))) with
 |false=>rw [hc] at h;cases h
 |true=>
 rw [hc] at h
 simp only [cond_true] at h
 simp only [Bool.and_eq_true,Bool.not_eq_true'] at hc
 obtain ⟨hdraw,hd,hall⟩:=hc
 subst hdraw
 have hd:d<S.nt:=by simpa using hd
 unfold NC at hrec
 obtain ⟨dst,op,ty,pos,after,gd⟩:=o
 simp only at hrec
 split at hrec
 case h_2=>cases hrec
 rename_i d0 cl
 split at hrec
 case h_2=>cases hrec
 rename_i hcl
 injection hrec with hrec
 subst hrec
 obtain ⟨e1,fps,τ0,τ1,hops1,ht1,hk1⟩:=NR (ca X) V S hC ops.toList more h (St.eqv.refl _)
 cases e1 with
 |exit id=>cases hk1
 |ret=>cases hk1
 |panic v=>cases hk1
 |normal=>
 simp only at hk1
 obtain ⟨e,τ,hbig,hk⟩:=zH (ca X) V S ann hC fuel b hk1
 have hsz:ops.size=more.length+1:=by have:=congrArg List.length hops;simpa using this
 have key: ∀ {out:Out U},(∀ (w:World) (vs:Array Value) (N0:aJ) (ν:Nat→Nat) (δ:Nat→Option Nat) (hg:Given X w vs N0 ν δ args boxes),
   Lands X (fY w N0 boxes.length args.length ν δ S.nt hlow hg.bnd X.gblk hg.glob) [] e τ (bodyPost P fn (eA X w N0 ν δ boxes.length args.length out)))→jE X (kG P u u') f args boxes out:=by
  intro out hl
  refine ⟨⟨fn,hf,hname,hbody⟩,fun w vs N0 ν δ hg=> ?_⟩
  refine callsD_of_wpS hf hcode fun c₀ cs hu=> ?_
  have hs:=zU hg hargs hlow
  rw [hnt]
  have hl:=hl w vs N0 ν δ hg
  generalize hcx:fY w N0 boxes.length args.length ν δ S.nt hlow hg.bnd X.gblk hg.glob=c at hs hl
  have hcnt:c.nt=S.nt:=by rw [←hcx];rfl
  have hOS:mt X (ca X) S c:=ny hI hS fun d hd=>by rw [hpin] at hd;cases hd
  obtain ⟨val,cs2,hrv,hrep⟩: ∃val cs2,(match recoverD (c₀::cs) with|some (v,cs')=>v=val∧cs'=cs2|none=>val= .nilIface∧cs2=c₀::cs)∧(∃c1:Frame,cs2={c₀ with mode:=u'}::cs)∧ ∀ (w:World) (N:aJ) (g:Gh U),Rep X w N g val v:=by
   cases hv with
   |nil=>
    refine ⟨.nilIface,c₀::cs, ?_,⟨c₀, ?_⟩,fun _ _ _=> .nilIface⟩
    ·simp [recoverD,hu]
    ·rw [←hu]
   |err t k n=>
    refine ⟨.iface t (.int k n),_, ?_,⟨c₀,rfl⟩,fun _ _ _=> .iface _ _ _ (.int _ _)⟩
    simp [recoverD,hu]
  obtain ⟨⟨_,hcs2⟩,hrep⟩:=hrep
  refine wpS_seq (wpS_region ?_)
  rw [hsz,List.range_eq_range',List.range'_succ]
  have h0:ops[0]? =some ⟨some d0,.call cl,ty,pos,after,none⟩:=by rw [←Array.getElem?_toList,hops];rfl
  simp only [wpOpsS,h0]
  have hrun:(execOp (Act.eval ⟨vs++Array.replicate (S.nt-vs.size) undef,[]⟩) ⟨some d0,.call cl,ty,pos,after,none⟩).run P w= .ok .recover w:=by
   rw [NV hcl]
   simp [builtin]
  rw [if_pos (by simp [Region.wanted]),hrun]
  simp only
  have hnext:wpOpsS P ops (Exit.thenS (b.wpS P (bodyPostS P fn c₀ cs fun e u2 w'=>u2=u'∧eA X w N0 ν δ boxes.length args.length out e w')) (bodyPostS P fn c₀ cs fun e u2 w'=>u2=u'∧eA X w N0 ν δ boxes.length args.length out e w')) (List.range' (0+1) more.length)
    (Act.put ⟨vs++Array.replicate (S.nt-vs.size) undef,[]⟩ (some d0) val) cs2 w:=by
   have hs1:=hs.put (d:=d0) (by rw [hcnt];exact hd) (hrep w _ _)
   have hLO: ∀ {next:Act→List Frame→World→Prop},¬LetsOut (fun e a' w'=>Exit.thenS next (bodyPostS P fn c₀ cs fun e u2 w'=>u2=u'∧eA X w N0 ν δ boxes.length args.length out e w') e a' cs2 w'):=by
    rintro next ⟨a',w',u2,_,hq⟩
    exact hq
   refine agO hLO _ _ _ ?_
   refine RD hOS more 1 _ w _ _ _ fps (by rw [hops];rfl) (by rw [hcnt];exact hall) hs1 hops1 ?_
   intro a2 w2 g2 D2 hd2 hs2
   simp only [Exit.thenS]
   refine wpS_of_wp (nZ hm hOS hcnt hbig a2 w2 g2 D2 _ (hs2.eqv ht1) ?_)
   intro a3 w3 g3 D3 hd3 hs3
   have hd0:a3.defers=[]:=hd3.trans hd2
   have hb:=hl a3 w3 g3 D3 hd0 hs3
   rw [hcs2]
   cases e with
   |normal=>obtain ⟨q1,v1,q2,q3⟩:=hb;exact ⟨q1,u',rfl,v1,q2,rfl,q3⟩
   |ret=>obtain ⟨q1,v1,q2,q3⟩:=hb;exact ⟨q1,u',rfl,v1,q2,rfl,q3⟩
   |exit id=>exact hb.elim
   |panic pv=>intro val' hval';obtain ⟨q1,q3⟩:=hb val' hval';exact ⟨q1,u',rfl,rfl,q3⟩
  cases hrd:recoverD (c₀::cs) with
  |none=>rw [hrd] at hrv;obtain ⟨rfl,rfl⟩:=hrv;exact hnext
  |some p=>obtain ⟨v1,cs1⟩:=p;rw [hrd] at hrv;obtain ⟨rfl,rfl⟩:=hrv;exact hnext
 cases e with
 |exit id=>cases hk
 |normal=>
  obtain ⟨r,τ0,τ1,gp,hr,ht,hfin⟩:=gb hC _ hk (St.eqv.refl τ)
  cases r with
  |out o=>
   refine ⟨o,hfin,key fun w vs N0 ν δ hg a' w' g' D' hd hs=> ?_⟩
   obtain ⟨v,h1,h2⟩:=qw kB hg.dom hs hr
   exact ⟨hd,v,h1,h2⟩
  |_=>cases hfin
 |ret=>
  obtain ⟨r,τ0,τ1,gp,hr,ht,hfin⟩:=gb hC _ hk (St.eqv.refl τ)
  cases r with
  |out o=>
   refine ⟨o,hfin,key fun w vs N0 ν δ hg a' w' g' D' hd hs=> ?_⟩
   obtain ⟨v,h1,h2⟩:=qw kB hg.dom hs hr
   exact ⟨hd,v,h1,h2⟩
  |_=>cases hfin
 |panic v=>
  obtain ⟨r,τ0,τ1,gp,hr,ht,hfin⟩:=gb hC _ hk (St.eqv.refl τ)
  cases r with
  |out o=>
   refine ⟨o,hfin,key fun w vs N0 ν δ hg a' w' g' D' hd hs val hval=> ?_⟩
   exact ⟨hd,DO kB hg.dom hs hval hr⟩
  |_=>cases hfin
end
end Go.Proofs.YtapmagaejigpnaaGreatDoor.PI
namespace Go.Proofs.YtapmagaejigpnaaGreatDoor.PI
open Go
set_option linter.unusedVariables false
set_option linter.unusedSimpArgs false
section
variable {U:Uni} {V:Env U} {P:Program} {X:Link V P}
def Ctx.refix (c:Ctx) (μ:Nat→Option Nat) (L:List Nat) (hnt:c.nt≤1000000) (hL: ∀id∈L,1000000≤id):Ctx:=
 {c with
  fix:=fun id=>if id∈L then μ id else c.fix id
  low:=fun id k h=>by
   split at h
   ·rename_i h1;exact ⟨hL id h1,Nat.le_trans hnt (hL id h1)⟩
   ·exact c.low id k h}
theorem Sim.refix {c:Ctx} {tm:Array Value} {w:World} {σ:St U} {g:Gh U} {D:Nat→Option Nat} (h:Sim X c tm w σ g D) {L:List Nat} {hnt:c.nt≤1000000} {hL: ∀id∈L,1000000≤id}:
  Sim X (c.refix g.μ L hnt hL) tm w σ g D where
 nt:=h.nt
 regs:=h.regs
 boxes:=h.boxes
 dom:=h.dom
 inj:=h.inj
 new:=h.new
 objs:=h.objs
 nobj:=h.nobj
 dinj:=h.dinj
 dnew:=h.dnew
 dbox:=h.dbox
 ext:=h.ext
 gl:=h.gl
 fix:=fun id k hk=>by
  simp only [Ctx.refix]
  by_cases hin:id∈L
  ·rw [if_pos hin];exact .inl hk
  ·rw [if_neg hin];exact h.fix id k hk
theorem CtxOf.refix {c:Ctx} {tm:Array Value} {w:World} {σ:St U} {g:Gh U} {D:Nat→Option Nat} (h:Sim X c tm w σ g D) {L:List Nat} {hnt:c.nt≤1000000} {hL: ∀id∈L,1000000≤id} (hLμ: ∀id∈L,∃b,g.μ id=some b)
  {w0:World} {N0:aJ} {n m:Nat} {ν:Nat→Nat} {δ:Nat→Option Nat} (hc:CtxOf c w0 N0 n m ν δ):CtxOf (c.refix g.μ L hnt hL) w0 N0 n m ν δ where
 cw:=hc.cw
 cN:=hc.cN
 bl:=hc.bl
 fix i hi:=by
  simp only [Ctx.refix]
  by_cases hin:di i∈L
  ·rw [if_pos hin]
   obtain ⟨b,hb⟩:=hLμ _ hin
   rcases h.fix _ _ hb with h1|⟨h1,_⟩
   ·rw [hb,←h1];exact hc.fix i hi
   ·rw [hc.fix i hi] at h1;cases h1
  ·rw [if_neg hin];exact hc.fix i hi
 other id k hk:=by
  simp only [Ctx.refix] at hk
  by_cases hin:id∈L
  ·rw [if_pos hin] at hk
   rcases h.fix _ _ hk with h1|⟨_,h1⟩
   ·exact hc.other id k h1
   ·rw [hc.cw] at h1;exact .inr h1
  ·rw [if_neg hin] at hk;exact hc.other id k hk
 bnd:=hc.bnd
def Af (c':Ctx) (caps:List (PV U)) (us:Array Value):Prop:=us.size=caps.length∧ ∀ (j:Nat) p,caps[j]? =some p→ ∃id off b,p= .ptr id off∧c'.fix id=some b∧us.getD j undef= .pointer (some ⟨b,off,none⟩)
def Ah (X:Link V P) (S:Side U) (code:Code) (σ:St U) (h:FuncId) (caps:List (PV U)) (e:Ex U) (τ:St U):Prop:=
 ∀ (c:Ctx),PinOK S c→c.nt=S.nt→ ∀ (a:Act) (w:World) (g:Gh U) (D:Nat→Option Nat) (Q:Exit→Act→World→Prop),Sim X c a.tmps w σ g D→a.defers=[]→
  (∀ (us:Array Value) (c':Ctx),(∀w0 N0 n m ν δ,CtxOf c w0 N0 n m ν δ→CtxOf c' w0 N0 n m ν δ)→c'.nt=c.nt→Af c' caps us→Lands X c' [{target:= .fn (.func h) us,args:= #[]}] e τ Q)→code.wp P Q a w
theorem WY {l:List Oper} {o:Oper} {n:Tmp} (h:B9 l=some (o,n)): ∃q cl,l=[o,q]∧o.dst=some n∧o.guard=none∧q.dst=none∧q.op= .defer cl∧q.guard=none∧cl.callee= .value (.tmp n)∧cl.args= #[]:=by
 unfold B9 at h
 split at h
 case h_2=>cases h
 rename_i o' q
 split at h
 case h_2=>cases h
 rename_i m cl h1 h2 h3 h4 h5
 split at h
 case h_2=>cases h
 rename_i n' hcl
 cases hb:(Nat.beq m n'&&cl.args.isEmpty) with
 |false=>rw [hb] at h;cases h
 |true=>
 rw [hb] at h
 injection h with h
 injection h with e1 e2
 subst e1;subst e2
 simp only [Bool.and_eq_true] at hb
 have hmn:m=n':=by simpa using hb.1
 subst hmn
 exact ⟨q,cl,rfl,h1,h2,h3,h4,h5,hcl,by simpa using hb.2⟩
theorem aed (hm:P.follows .mixedOrders=true) (hI:kH X) {S:Side U} (hS:S.rcv=none) (hlow:S.nt≤1000000) {R:Type} {C:Oracle U R} (hC:C.Tells (ca X)) {ann:Nat→Option Ann} {fuel:Nat}:
  ∀ (code:Code) {σ:St U} {κ0:Ex U→St U→Option R} {κ1:FuncId→List (PV U)→Ex U→St U→Option R} {x:R},nL V S C ann fuel code σ κ0 κ1=some x→
   (∃e τ,e≠ .normal∧κ0 e τ=some x∧ ∀c,PinOK S c→c.nt=S.nt→u6 X c none code σ e τ)∨
   (∃h caps e τ,κ1 h caps e τ=some x∧Ah X S code σ h caps e τ):=by
 intro code
 induction code with
 |seq a b iha ihb=>
  intro σ κ0 κ1 x h
  have step:run V S C ann fuel a σ (fun| .normal,σ'=>nL V S C ann fuel b σ' κ0 κ1|e,σ'=>κ0 e σ')=some x→
    (∃e τ,e≠ .normal∧κ0 e τ=some x∧ ∀c,PinOK S c→c.nt=S.nt→u6 X c none (.seq a b) σ e τ)∨
    (∃h caps e τ,κ1 h caps e τ=some x∧Ah X S (.seq a b) σ h caps e τ):=by
   intro h
   obtain ⟨e,τ,hbig,hk⟩:=zH (ca X) V S ann hC fuel a h
   have early:e≠ .normal→κ0 e τ=some x→_:=fun he hk=>(.inl ⟨e,τ,he,hk,fun c hP hnt=>nZ hm (ny hI hS hP) hnt (.seqE a b _ _ _ hbig he)⟩:
    (∃e τ,e≠ .normal∧κ0 e τ=some x∧ ∀c,PinOK S c→c.nt=S.nt→u6 X c none (.seq a b) σ e τ)∨(∃h caps e τ,κ1 h caps e τ=some x∧Ah X S (.seq a b) σ h caps e τ))
   cases e with
   |normal=>
    rcases ihb hk with ⟨e',τ',he',hk',hB⟩|⟨hh,caps,e',τ',hk',hB⟩
    ·exact .inl ⟨e',τ',he',hk',fun c hP hnt a' w g D Q hs hl=>wp_seq (nZ hm (ny hI hS hP) hnt hbig a' w g D _ hs fun a2 w2 g2 D2 hd2 hs2=>hB c hP hnt a2 w2 g2 D2 Q hs2 (by rw [hd2];exact hl))⟩
    ·exact .inr ⟨hh,caps,e',τ',hk',fun c hP hnt a' w g D Q hs hd hl=>wp_seq (nZ hm (ny hI hS hP) hnt hbig a' w g D _ hs fun a2 w2 g2 D2 hd2 hs2=>hB c hP hnt a2 w2 g2 D2 Q hs2 (hd2.trans hd) hl)⟩
   |exit id=>exact early (by simp) hk
   |ret=>exact early (by simp) hk
   |panic v=>exact early (by simp) hk
  clear iha
  unfold nL at h
  split at h
  case h_2=>exact step h
  rename_i id ops draw
  split at h
  case h_2=>exact step h
  rename_i o n hdfr
  obtain ⟨q,cl,hops,ho1,ho2,hq1,hq2,hq3,hcl,hargs⟩:=WY hdfr
  cases hc:(!draw&&bq S.nt o) with
  |false=>rw [hc] at h;cases h
  |true=>
  rw [hc] at h
  simp only [cond_true] at h
  simp only [Bool.and_eq_true,Bool.not_eq_true'] at hc
  obtain ⟨hdraw,hdo⟩:=hc
  subst hdraw
  obtain ⟨r,τ0,τ,gp,hrel,ht,hk⟩:=gb hC _ h (St.eqv.refl σ)
  cases r with
  |raise v=>cases hk
  |out o=>cases hk
  |done=>
  simp only at hk
  split at hk
  case h_2=>cases hk
  rename_i hh caps hfun
  cases hp:caps.all PV.pinned with
  |false=>rw [hp] at hk;cases hk
  |true=>
  rw [hp] at hk
  simp only [cond_true] at hk
  obtain ⟨e,τ2,hbig,hk2⟩:=zH (ca X) V {S with pin:=fun _=>false} ann hC fuel b hk
  refine .inr ⟨hh,caps,e,τ2,hk2,fun c hP hnt a w g D Q hs hdef hl=>wp_seq (wp_region ?_)⟩
  have hsz:ops.size=2:=by have:=congrArg List.length hops;simpa using this
  have h0:ops[0]? =some o:=by rw [←Array.getElem?_toList,hops];rfl
  have h1:ops[1]? =some q:=by rw [←Array.getElem?_toList,hops];rfl
  rw [hsz,show List.range 2=[0,1] from rfl]
  simp only [wpOps,h0,h1]
  rw [if_pos (by simp [Region.wanted,ho2])]
  refine .inl (ny hI hS hP o a w σ g D .done τ0 [] gp _ _ (by rw [hnt];exact hdo) hs hrel ⟨fun _ a2 w2 g2 D2 hd2 hs2=> ?_,fun v hv=>by cases hv⟩)
  rw [if_pos (by simp [Region.wanted,hq3])]
  refine .inl ?_
  have hs3:=hs2.eqv ht
  have hR:=hs3.regs n
  rw [hfun] at hR
  generalize hev:a2.tmps.getD n undef=ev at hR
  cases hR with
  |func _ _ _ vs us hvs hus hf1 hf2=>
  have hvs0:vs= #[]:=by
   have:vs.size=0:=by simpa using hvs
   exact Array.eq_empty_of_size_eq_zero this
  subst hvs0
  obtain ⟨qd,qo,qt,qp,qa,qg⟩:=q
  simp only at hq1 hq2 hq3
  subst hq1;subst hq2;subst hq3
  have hrun:(execOp a2.eval ⟨none,.defer cl,qt,qp,qa,none⟩).run P w2= .ok (.defer {target:= .fn (.func hh) us,args:= #[]}) w2:=by
   have hev':a2.eval (.tmp n)= .func (.func hh) #[] us:=hev
   simp [execOp,resolve,hcl,hargs,hev',Deferred.ofValue]
  unfold Oper.wp
  rw [hrun,Oper.upon_defer]
  have hids: ∀id∈PV.idsL caps,1000000≤id∧ ∃b,g2.μ id=some b:=by
   intro id hid
   obtain ⟨p,hpm,hpi⟩: ∃p∈caps,id∈p.ids:=by
    clear hl hk2 hbig hk hf1 hf2 hus hfun hp h step
    induction caps with
    |nil=>cases hid
    |cons p caps ih=>
     simp only [PV.idsL,List.mem_append] at hid
     rcases hid with hid|hid
     ·exact ⟨p,by simp,hid⟩
     ·obtain ⟨q,hq,hqi⟩:=ih hid;exact ⟨q,by simp [hq],hqi⟩
   have hpp:=List.all_eq_true.1 hp p hpm
   obtain ⟨j,hj⟩:=List.mem_iff_getElem?.1 hpm
   have hr:=hf2 j p hj
   cases p with
   |ptr id' off=>
    simp only [PV.ids,List.mem_singleton] at hpi
    subst hpi
    refine ⟨by simpa [PV.pinned] using hpp, ?_⟩
    generalize us.getD j undef=uv at hr
    cases hr with
    |ptr _ _ b hb=>exact ⟨b,hb⟩
   |_=>cases hpp
  have hcnt:c.nt≤1000000:=by rw [hnt];exact hlow
  refine nZ (S:={S with pin:=fun _=>false}) hm (ny hI hS fun d hd=>by cases hd) (c:=c.refix g2.μ (PV.idsL caps) hcnt fun id hid=>(hids id hid).1) hnt hbig _ w2 g2 D2 Q hs3.refix ?_
  have hld:=hl us (c.refix g2.μ (PV.idsL caps) hcnt fun id hid=>(hids id hid).1) (fun w0 N0 n m ν δ hc=>CtxOf.refix hs3 (fun id hid=>(hids id hid).2) hc) rfl ⟨hus,fun j p hj=> ?_⟩
  ·have hd3:((Act.put {a2 with defers:={target:= .fn (.func hh) us,args:= #[]}::a2.defers} none undef).defers)=[{target:= .fn (.func hh) us,args:= #[]}]:=by
    have:a2.defers=[]:=hd2.trans hdef
    simp [Act.put,this]
   rw [hd3];exact hld
  ·have hpp:=List.all_eq_true.1 hp p (List.mem_of_getElem? hj)
   have hr:=hf2 j p hj
   cases p with
   |ptr id off=>
    have hin:id∈PV.idsL caps:=eU hj id (by simp [PV.ids])
    generalize us.getD j undef=uv at hr
    cases hr with
    |ptr _ _ b hb=>exact ⟨id,off,b,rfl,by simp only [Ctx.refix];rw [if_pos hin];exact hb,rfl⟩
   |_=>cases hpp
 |_=>intro σ κ0 κ1 x h;cases h
end
end Go.Proofs.YtapmagaejigpnaaGreatDoor.PI
namespace Go.Proofs.YtapmagaejigpnaaGreatDoor.PI
open Go
set_option linter.unusedVariables false
set_option linter.unusedSimpArgs false
section
variable {U:Uni} {V:Env U} {P:Program} {X:Link V P}
theorem Da {fn:Func} {w0:World} {N0:aJ} {n m:Nat} {ν:Nat→Nat} {δ:Nat→Option Nat} {c':Ctx} (hc:CtxOf c' w0 N0 n m ν δ) (hdom: ∀j b,δ j=some b→j<m) {v:PV U} {u u':FrameMode} (hv:RcvOK v u u')
  {hh:FuncId} {caps:List (PV U)} {us:Array Value} (hct:Af c' caps us) {τ τ1:St U} {r:MR U} {τ0:St U} {gp gp':List Loc} {K:ce U} {keep:Bool} {hand:List Bool} {out:Out U} {τ2:St U}
  (hrel:(g0 (PV.idsL caps) fun _=>iG [] none (.func hh [] caps) []).Rel (jE X (kG P u u')) τ [] r τ0 gp) (hr:r= .done) (ht:τ0.eqv τ1) (hret:(jr V keep hand fn.results.toList n).Rel K τ1 [] (.out out) τ2 gp')
  {a:Act} {w:World} {g:Gh U} {D:Nat→Option Nat} (hs:Sim X c' a.tmps w τ g D):
  Leaves P fn a.tmps (eA X w0 N0 ν δ n m out) [{target:= .fn (.func hh) us,args:= #[]}] u w:=by
 obtain ⟨bs,fp1,hrel1,hkeys,hbs⟩:=CH _ hrel
 have hR:Rep X w (c'.N g D) g (.func (.func hh) #[] us) (.func hh [] caps):=by
  refine .func hh [] caps #[] us rfl hct.1 (by simp) fun j p hp=> ?_
  obtain ⟨id,off,b,rfl,hfix,hus⟩:=hct.2 j p hp
  rw [hus]
  refine .ptr id off b ?_
  have hin:id∈PV.idsL caps:=eU hp id (by simp [PV.ids])
  rw [←hkeys] at hin
  obtain ⟨x,hx,rfl⟩:=List.mem_map.1 hin
  obtain ⟨k,hk,_⟩:=hs.boxes x.1 x.2 (hbs x hx)
  rcases hs.fix _ _ hk with h1|⟨h1,_⟩
  ·rw [hfix] at h1;injection h1 with h1;rw [h1];exact hk
  ·rw [hfix] at h1;cases h1
 obtain ⟨f,a0s,bs',hfv,⟨fnh,hfh,hnameh,hbodyh⟩,hcall⟩:=Hr (X:=X) (c:=c') (a:=a) (dst:=none) (o:=⟨none,.move (.const undef),0, "",#[],none⟩) (CP:=kG P u u') (xs:= #[])
  (next:=fun a2 w2=>Leaves P fn a2.tmps (eA X w0 N0 ν δ n m out) [] .returning w2) (Q:=fun _ _ _=>False)
  (fun {f vs w R R'} h hm=>CallsD.mono h fun e u2 w2 ⟨h1,h2⟩=>⟨h1,hm e w2 h2⟩) hs hR rfl (by simp) rfl rfl hrel1
  ⟨fun _ a2 w2 g2 D2 _ hs2=>by
   obtain ⟨v,h1,h2⟩:=qw hc hdom (hs2.eqv ht) hret
   exact ⟨v,h1,h2⟩,fun v hv=>by rw [hr] at hv;cases hv⟩
 injection hfv with e1 e2 e3
 injection e1 with e1
 subst e1;subst e2;subst e3
 have hun:u≠ .run:=by cases hv<;>simp
 refine leaves_cons hun (f:=hh) (args:= #[]++us) (by simp only [invoke];exact NW hfh hnameh hbodyh _ w) ?_
 have hcall2:CallsD P hh (#[]++us) u w fun e u2 w'=>u2=u'∧(match e,w' with
    | .returned v,w''=>Leaves P fn (a.put none v).tmps (eA X w0 N0 ν δ n m out) [] .returning w''
    | .panicked chain,w''=>False
    | .outgrown,_=>LetsOut (fun _ _ _=>False)):=by
  have:=hcall
  simp only [Array.append_empty] at this
  exact this.mono fun e u2 w2 ⟨h1,h2⟩=>⟨h1,by cases e<;>exact h2⟩
 refine hcall2.mono fun e u2 w2 ⟨h1,h2⟩=> ?_
 subst h1
 cases e with
 |returned rv=>
  simp only [Act.put] at h2
  have hset:settle u2= .returning:=by cases hv<;>rfl
  simp only [hset]
  exact h2
 |panicked chain=>exact h2.elim
 |outgrown=>obtain ⟨_,_,h⟩:=h2;exact h.elim
theorem aec (hm:P.follows .mixedOrders=true) (hI:kH X) {S:Side U} (hS:S.rcv=none) {R:Type} {C:Oracle U R} (hC:C.Tells (ca X)) {Cd:PV U→Oracle U R} (hCd: ∀v u u',RcvOK v u u'→(Cd v).Tells (jE X (kG P u u')))
  {f:FuncId} {fn:Func} (hf:P.funcs[f]? =some fn)
  (hname:(fn.name== "runtime.NumGoroutine")=false) (hbody:fn.body.isNone=false) (hnt:fn.ntmps=S.nt) (hlow:S.nt≤1000000) {args:List (PV U)} {boxes:List (Box U)} (hargs:args.length≤S.nt) (hboxes:boxes.length≤1000000)
  {ann:Nat→Option Ann} {fuel:Nat} {keep:Bool} {hand:List Bool} {κ:Out U→Option R} {x:R} (h:ES V S C ann fuel Cd keep hand fn args boxes κ=some x): ∃out,κ out=some x∧ca X f args boxes out:=by
 obtain ⟨code,hcode⟩: ∃code,fn.body=some code:=by
  cases hb:fn.body with
  |none=>rw [hb] at hbody;cases hbody
  |some code=>exact ⟨code,rfl⟩
 unfold ES f_ at h
 rw [hcode] at h
 have hpin: ∀ {w:World} {vs:Array Value} {N0:aJ} {ν:Nat→Nat} {δ:Nat→Option Nat} (hg:Given X w vs N0 ν δ args boxes),PinOK S (fY w N0 boxes.length args.length ν δ S.nt hlow hg.bnd X.gblk hg.glob):=by
  intro w vs N0 ν δ hg d _
  simp only [fY]
  rw [if_neg (by omega)]
 rcases aed (X:=X) hm hI hS hlow hC code h with ⟨e,τ,he,hk,hB⟩|⟨hh,caps,e,τ,hk,hB⟩
 ·have key: ∀ {out:Out U},(∀ (w:World) (vs:Array Value) (N0:aJ) (ν:Nat→Nat) (δ:Nat→Option Nat) (hg:Given X w vs N0 ν δ args boxes),
    Lands X (fY w N0 boxes.length args.length ν δ S.nt hlow hg.bnd X.gblk hg.glob) [] e τ (bodyPost P fn (eA X w N0 ν δ boxes.length args.length out)))→ca X f args boxes out:=by
   intro out hl
   refine ⟨⟨fn,hf,hname,hbody⟩,fun w vs N0 ν δ hg=>calls_of_wp hf hcode ?_⟩
   have hs:=zU hg hargs hlow
   rw [hnt]
   exact hB _ (hpin hg) rfl _ w _ _ _ hs (hl w vs N0 ν δ hg)
  cases e with
  |exit id=>cases hk
  |normal=>exact absurd rfl he
  |ret=>
   obtain ⟨r,τ0,τ1,gp,hr,ht,hfin⟩:=gb hC _ hk (St.eqv.refl τ)
   cases r with
   |out o=>
    refine ⟨o,hfin,key fun w vs N0 ν δ hg a' w' g' D' hd hs=> ?_⟩
    obtain ⟨v,h1,h2⟩:=qw kB hg.dom hs hr
    exact ⟨hd,v,h1,h2⟩
   |_=>cases hfin
  |panic v=>
   obtain ⟨r,τ0,τ1,gp,hr,ht,hfin⟩:=gb hC _ hk (St.eqv.refl τ)
   cases r with
   |out o=>
    refine ⟨o,hfin,key fun w vs N0 ν δ hg a' w' g' D' hd hs val hval=> ?_⟩
    exact ⟨hd,DO kB hg.dom hs hval hr⟩
   |_=>cases hfin
 ·have key: ∀ {out:Out U},(∀ (w:World) (vs:Array Value) (N0:aJ) (ν:Nat→Nat) (δ:Nat→Option Nat) (hg:Given X w vs N0 ν δ args boxes) (us:Array Value) (c':Ctx),CtxOf c' w N0 boxes.length args.length ν δ→Af c' caps us→
    Lands X c' [{target:= .fn (.func hh) us,args:= #[]}] e τ (bodyPostD P fn (eA X w N0 ν δ boxes.length args.length out)))→ca X f args boxes out:=by
   intro out hl
   refine ⟨⟨fn,hf,hname,hbody⟩,fun w vs N0 ν δ hg=>calls_of_wp_defers hf hcode ?_⟩
   have hs:=zU hg hargs hlow
   rw [hnt]
   exact hB _ (hpin hg) rfl _ w _ _ _ hs rfl fun us c' hcx _ hct=>hl w vs N0 ν δ hg us c' (hcx _ _ _ _ _ _ kB) hct
  have fin: ∀ {v:PV U} {u u':FrameMode},RcvOK v u u'→(g0 (PV.idsL caps) fun _=>iG [] none (.func hh [] caps) []).cps (Cd v) τ [] (fun| .done,σ',_=>(jr V keep hand fn.results.toList boxes.length).cps C σ' [] (Go.Proofs.YtapmagaejigpnaaGreatDoor.PI.fin κ)|_,_,_=>none)=some x→
    ∃ (out:Out U) (r:MR U) (τ0 τ1 τ2:St U) (gp gp':List Loc),κ out=some x∧(g0 (PV.idsL caps) fun _=>iG [] none (.func hh [] caps) []).Rel (jE X (kG P u u')) τ [] r τ0 gp∧r= .done∧τ0.eqv τ1∧(jr V keep hand fn.results.toList boxes.length).Rel (ca X) τ1 [] (.out out) τ2 gp':=by
   intro v u u' hv hk
   obtain ⟨r,τ0,τ1,gp,hr,ht,hk1⟩:=gb (hCd v u u' hv) _ hk (St.eqv.refl τ)
   cases r with
   |raise v=>cases hk1
   |out o=>cases hk1
   |done=>
    obtain ⟨r',τ2,τ3,gp',hr',ht',hk2⟩:=gb hC _ hk1 (St.eqv.refl τ1)
    cases r' with
    |out o=>exact ⟨o,.done,τ0,τ1,τ2,gp,gp',hk2,hr,rfl,ht,hr'⟩
    |_=>cases hk2
  cases e with
  |exit id=>cases hk
  |normal=>
   obtain ⟨out,r,τ0,τ1,τ2,gp,gp',h1,h2,h3,h4,h5⟩:=fin .nil hk
   refine ⟨out,h1,key fun w vs N0 ν δ hg us c' hcx hct a' w' g' D' hd hs=> ?_⟩
   simp only [bodyPostD,hd]
   exact Da hcx hg.dom .nil hct h2 h3 h4 h5 hs
  |ret=>
   obtain ⟨out,r,τ0,τ1,τ2,gp,gp',h1,h2,h3,h4,h5⟩:=fin .nil hk
   refine ⟨out,h1,key fun w vs N0 ν δ hg us c' hcx hct a' w' g' D' hd hs=> ?_⟩
   simp only [bodyPostD,hd]
   exact Da hcx hg.dom .nil hct h2 h3 h4 h5 hs
  |panic v=>
   simp only [kD] at hk
   split at hk
   case h_2=>cases hk
   rename_i t k n'
   obtain ⟨out,r,τ0,τ1,τ2,gp,gp',h1,h2,h3,h4,h5⟩:=fin (.err t k n') hk
   refine ⟨out,h1,key fun w vs N0 ν δ hg us c' hcx hct a' w' g' D' hd hs val hval=> ?_⟩
   simp only [bodyPostD,hd]
   cases hval with
   |iface _ u _ hu=>cases hu;exact Da hcx hg.dom (.err t k n') hct h2 h3 h4 h5 hs
end
end Go.Proofs.YtapmagaejigpnaaGreatDoor.PI
namespace Go.Proofs.YtapmagaejigpnaaGreatDoor
open Go PI
set_option linter.unusedVariables false
set_option maxRecDepth 100000
noncomputable section
noncomputable def tj:ET→TypeId
 | .C=>61
 | .T=>26
 | .B=>63
 | .I=>3
 | .F=>22
noncomputable def oR:ET→Nat
 | .C=>2
 | .T=>6
 | .B=>2
 | .I=>1
 | .F=>1
noncomputable def xZ:ET→Nat
 | .C=>8
 | .T=>104
 | .B=>48
 | .I=>8
 | .F=>24
noncomputable def yg (e:ET):Value:=((Tryz.prog.info? (tj e)).bind (·.zero)).getD undef
noncomputable def Cx (e:ET):Bool:=match Tryz.prog.info? (tj e) with
 |some i=>i.zero.isSome&&(Nat.beq i.size (oR e)&&Nat.beq i.bytes (xZ e))&&Nat.beq (yg e).cells.size (oR e)
 | .none=>false
theorem Iq (e:ET):Cx e=true:=by cases e<;>kernel_rfl
theorem Rh: ∀t r,uY t=some r→G7 Tryz.prog tj t r=true:=by
 intro t r h
 unfold uY at h
 split at h<;>first|(injection h with h;subst h;kernel_rfl)|cases h
theorem aar: ∀t r e,uY t=some r→r.keys=some e→e= .C:=by
 intro t r e h hk
 unfold uY at h
 split at h<;>first|(injection h with h;subst h;cases hk;done)|(injection h with h;subst h;injection hk with hk;exact hk.symm)|cases h
theorem agj: ∀e cs y,Rd e cs=some y→cs.length=oR e∧cs.all PV.isCell=true∧ ∀ (k:Nat) p,cs[k]? =some p→ ∃q,(dy e y)[k]? =some q∧p.less q:=by
 have hC: ∀ {p:PU} {l},ra p=some l→ ∃o,p= .sl (U:=UU) ET.C l o:=by
  intro p l h;unfold ra at h;split at h<;>first|(injection h with h;subst h;exact ⟨_,rfl⟩)|cases h
 have hT: ∀ {p:PU} {l},va p=some l→ ∃o,p= .sl (U:=UU) ET.T l o:=by
  intro p l h;unfold va at h;split at h<;>first|(injection h with h;subst h;exact ⟨_,rfl⟩)|cases h
 have hB: ∀ {p:PU} {l},Bd p=some l→ ∃o,p= .sl (U:=UU) ET.B l o:=by
  intro p l h;unfold Bd at h;split at h<;>first|(injection h with h;subst h;exact ⟨_,rfl⟩)|cases h
 intro e cs y h
 cases e
 ·have h:G3 cs=some y:=h
  unfold G3 at h
  split at h
  case h_2=>cases h
  injection h with h;subst h
  refine ⟨rfl,rfl,fun k p hp=> ?_⟩
  match k,hp with
  |0,hp=>exact ⟨_,rfl,.inl (Option.some.inj hp).symm⟩
  |1,hp=>exact ⟨_,rfl,.inl (Option.some.inj hp).symm⟩
  |k+2,hp=>simp at hp
 ·have h:G6 cs=some y:=h
  unfold G6 at h
  split at h
  case h_2=>cases h
  split at h
  case h_2=>cases h
  rename_i h1 h2 h3
  injection h with h;subst h
  obtain ⟨o1,rfl⟩:=hC h1;obtain ⟨o2,rfl⟩:=hT h2;obtain ⟨o3,rfl⟩:=hB h3
  refine ⟨rfl,rfl,fun k p hp=> ?_⟩
  match k,hp with
  |0,hp=>exact ⟨_,rfl,.inl (Option.some.inj hp).symm⟩
  |1,hp=>exact ⟨_,rfl,.inl (Option.some.inj hp).symm⟩
  |2,hp=>exact ⟨_,rfl,.inl (Option.some.inj hp).symm⟩
  |3,hp=>exact ⟨_,rfl,.inr ⟨_,_,_,(Option.some.inj hp).symm,rfl⟩⟩
  |4,hp=>exact ⟨_,rfl,.inr ⟨_,_,_,(Option.some.inj hp).symm,rfl⟩⟩
  |5,hp=>exact ⟨_,rfl,.inr ⟨_,_,_,(Option.some.inj hp).symm,rfl⟩⟩
  |k+6,hp=>simp at hp
 ·have h:G2 cs=some y:=h
  unfold G2 at h
  split at h
  case h_2=>cases h
  split at h
  case h_2=>cases h
  rename_i h1 h2
  injection h with h;subst h
  obtain ⟨o1,rfl⟩:=hC h1;obtain ⟨o2,rfl⟩:=hT h2
  refine ⟨rfl,rfl,fun k p hp=> ?_⟩
  match k,hp with
  |0,hp=>exact ⟨_,rfl,.inr ⟨_,_,_,(Option.some.inj hp).symm,rfl⟩⟩
  |1,hp=>exact ⟨_,rfl,.inr ⟨_,_,_,(Option.some.inj hp).symm,rfl⟩⟩
  |k+2,hp=>simp at hp
 ·have h:G5 cs=some y:=h
  unfold G5 at h
  split at h
  case h_2=>cases h
  injection h with h;subst h
  refine ⟨rfl,rfl,fun k p hp=> ?_⟩
  match k,hp with
  |0,hp=>exact ⟨_,rfl,.inl (Option.some.inj hp).symm⟩
  |k+1,hp=>simp at hp
 ·have h:G4 cs=some y:=h
  unfold G4 at h
  split at h
  case h_2=>cases h
  obtain ⟨o1,rfl⟩:=hC h
  refine ⟨rfl,rfl,fun k p hp=> ?_⟩
  match k,hp with
  |0,hp=>exact ⟨_,rfl,.inr ⟨_,_,_,(Option.some.inj hp).symm,rfl⟩⟩
  |k+1,hp=>simp at hp
theorem Y2 (e:ET): ∃i,Tryz.prog.info? (tj e)=some i∧i.zero=some (yg e)∧i.size=oR e∧i.bytes=xZ e:=by
 have h:=Iq e
 unfold Cx at h
 split at h
 ·rename_i i hi
  simp only [Bool.and_eq_true] at h
  obtain ⟨⟨h1,h2,h3⟩,h4⟩:=h
  refine ⟨i,hi, ?_,by simpa using h2,by simpa using h3⟩
  unfold yg
  rw [hi]
  obtain ⟨z,hz⟩:=Option.isSome_iff_exists.1 h1
  simp [hz]
 ·cases h
noncomputable def LL (o:Obj):Link VV Tryz.prog where
 gblk:=[(0,o)]
 etid:=tj
 esize:=oR
 ebytes:=xZ
 ezero:=yg
 einfo:=Y2
 zsize:=fun e=>by
  have h:=Iq e
  unfold Cx at h
  split at h
  ·simp only [Bool.and_eq_true] at h
   exact by simpa using h.2
  ·cases h
 epos:=fun e=>by cases e<;>decide
 broom:=fun e n h=>by
  have h':n≤1099511627776:=h
  cases e<;>simp only [xZ,maxLen]<;>omega
 len:=fun e x=>by cases e<;>rfl
 small:=fun e=>by cases e<;>decide
 ecell':=fun e x=>by cases e<;>rfl
 toEl:=agj
 ty:=fun t r h=>Rg (Rh t r h)
 keyT:=fun t r e h hk=>by
  have he:=aar t r e h hk
  subst he
  obtain ⟨fs,h1,h2,_,h4,h5⟩:=(Rg (Rh 61 _ rfl)).isInts rfl
  exact ⟨⟨fs,h1,h2,h4,h5⟩,fun x y=>⟨_,by simp only [VV,dy,PV.eqvI];rfl⟩⟩
theorem yJ:Tryz.prog.follows .mixedOrders=true:=by kernel_rfl
theorem sw {A B:Out UU→Prop} (h: ∃out,A out∧B out): ∃out,B out∧A out:=by obtain ⟨o,a,b⟩:=h;exact ⟨o,b,a⟩
theorem Wx {S:Type} {b:Bool} {x y:Option S} {v:S} (h:(bif b then x else y)=some v):x=some v∨y=some v:=by
 cases b
 ·exact .inr h
 ·exact .inl h
end
end Go.Proofs.YtapmagaejigpnaaGreatDoor
namespace Go.Proofs.YtapmagaejigpnaaGreatDoor
open Go PI
set_option linter.unusedVariables false
def U32 (s:Int):Prop:=0≤s∧s<4294967296
theorem U32.nat {s:Int} (h:U32 s): ∃n:Nat,n<4294967296∧s=n:=⟨s.toNat,by have:=h.1;have:=h.2;omega,by have:=h.1;omega⟩
theorem mB {n:Nat} (h:n<4294967296):(BitVec.ofInt 32 (n:Int)).toNat=n:=by
 simp
 omega
theorem kC (n:Nat) (h:n<4294967296):IntKind.wrap .u32 (n:Int)=n:=by
 simp [IntKind.wrap,IntKind.bits,IntKind.signed];omega
theorem gI (n:Nat) (h:n<18446744073709551616):IntKind.wrap .u64 (n:Int)=n:=by
 simp [IntKind.wrap,IntKind.bits,IntKind.signed];omega
theorem dB {n:Int} (h1: -9223372036854775808≤n) (h2:n<9223372036854775808):IntKind.wrap .i64 n=n:=by
 simp [IntKind.wrap,IntKind.bits,IntKind.signed];omega
theorem q_ {a b n:Nat} (h:a<2^n):a&&&b<2^n:=Nat.lt_of_le_of_lt Nat.and_le_left h
theorem kK {a b:Nat} (ha:a<4294967296) (hb:b<4294967296):be .and .u32 (a:Int) (b:Int)=((a&&&b:Nat):Int):=by
 have h1:=mB ha;have h2:=mB hb
 simp only [be]
 show IntKind.wrap .u32 (((BitVec.ofInt 32 (a:Int))&&&(BitVec.ofInt 32 (b:Int))).toNat:Int)=_
 rw [BitVec.toNat_and,h1,h2]
 exact kC _ (q_ (n:=32) ha)
theorem vc {a b:Nat} (ha:a<4294967296) (hb:b<4294967296):be .or .u32 (a:Int) (b:Int)=((a|||b:Nat):Int):=by
 have h1:=mB ha;have h2:=mB hb
 simp only [be]
 show IntKind.wrap .u32 (((BitVec.ofInt 32 (a:Int))|||(BitVec.ofInt 32 (b:Int))).toNat:Int)=_
 rw [BitVec.toNat_or,h1,h2]
 exact kC _ (Nat.or_lt_two_pow (n:=32) ha hb)
def dp (a b:Nat):Nat:=a^^^(a&&&b)
theorem kl (a b i:Nat):(dp a b).testBit i=(a.testBit i&& !b.testBit i):=by
 simp only [dp,Nat.testBit_xor,Nat.testBit_and]
 cases a.testBit i<;>cases b.testBit i<;>rfl
theorem t_ {a b n:Nat} (h:a<2^n):dp a b<2^n:=Nat.xor_lt_two_pow h (q_ h)
theorem Bg {a b:Nat} (ha:a<4294967296) (hb:b<4294967296):be .andNot .u32 (a:Int) (b:Int)=((dp a b:Nat):Int):=by
 have h1:=mB ha;have h2:=mB hb
 simp only [be]
 show IntKind.wrap .u32 (((BitVec.ofInt 32 (a:Int))&&& ~~~(BitVec.ofInt 32 (b:Int))).toNat:Int)=_
 have e:((BitVec.ofInt 32 (a:Int))&&& ~~~(BitVec.ofInt 32 (b:Int))).toNat=dp a b:=by
  apply Nat.eq_of_testBit_eq
  intro i
  rw [kl,BitVec.toNat_and,Nat.testBit_and,h1]
  by_cases hi:i<32
  ·have:(~~~(BitVec.ofInt 32 (b:Int))).toNat.testBit i= !b.testBit i:=by
    rw [←BitVec.getLsbD,BitVec.getLsbD_not]
    rw [BitVec.getLsbD,h2];simp [hi]
   rw [this]
  ·have:a.testBit i=false:=Nat.testBit_lt_two_pow (Nat.lt_of_lt_of_le ha (by exact Nat.pow_le_pow_right (n:=2) (by decide) (show 32≤i by omega)))
   simp [this]
 rw [e]
 exact kC _ (t_ (n:=32) ha)
theorem aS {α:Type} (p:Prop) [Decidable p] (x y:α):ab (decide p) x y=if p then x else y:=by
 by_cases h:p
 ·rw [decide_eq_true h,if_pos h,ae]
 ·rw [decide_eq_false h,if_neg h,ad]
theorem cx {α:Type} (c:Bool) (x y:α):ab c x y=if c=true then x else y:=by
 cases c
 ·exact ad x y
 ·exact ae x y
abbrev Fu (k:Nat):Prop:=4294967296≤k
theorem af {R S:Type} {k:Nat} (h:Fu k) (f:(R→Option S)→Option S) (g:R→Option S):aa k f g=f g:=WE (by have:4294967296≤k:=h;omega) f g
theorem aO {S:Type} {n m:Nat} (h:n+m≤1099511627776) (f:Unit→Option S):Option.bind (ay 1099511627776 n m) f=f ():=by
 have:n+m≤1099511627776:=h
 simp [ay,this]
theorem az {α:Type} {l p r:List α} {x:α} (h:l=p++x::r) (hl:l.length<4611686018427387904):
  decide ((p.length:Int)<(l.length:Int))=true∧al l (p.length:Int)=some x∧IntKind.wrap .i64 ((p.length:Int)+1)=((p++[x]).length:Int)∧l=(p++[x])++r:=by
 subst h
 rw [List.length_append,List.length_cons] at hl
 refine ⟨decide_eq_true (by rw [List.length_append,List.length_cons];omega), ?_, ?_,by simp⟩
 ·simp [al]
 ·rw [List.length_append,List.length_cons,List.length_nil]
  simp [IntKind.wrap,IntKind.bits,IntKind.signed];omega
theorem aA {α:Type} {l p:List α} (h:l=p++[]):decide ((p.length:Int)<(l.length:Int))=false:=by
 subst h
 exact decide_eq_false (by rw [List.append_nil];omega)
theorem ak {n m:Nat} (h:n<m): ∃q,m=q+1∧n≤q:=⟨m-1,by omega,by omega⟩
theorem iF {S:Type} (p:Prop) [Decidable p] (h:p) (f:Unit→Option S):Option.bind (bS p) f=f ():=by simp [bS,h]
theorem yn {α:Type} (l:List α) (i:Nat):al l (i:Int)=l[i]? :=by simp [al]
end Go.Proofs.YtapmagaejigpnaaGreatDoor
namespace Go.Proofs.YtapmagaejigpnaaGreatDoor
open Go PI
set_option linter.unusedVariables false
set_option maxRecDepth 100000
noncomputable section
abbrev gJ (S:Type):=Tm→Int→(Int→Option S)→Option S
def nW {S:Type} (hd:gJ S) (k:Nat) (ret:Int→Option S) (t:Tm) (most i7:Int) (rec1:Int→Int→Option S) (rec2:Int→Int→Option S) (v5'' v8:Int):Option S:=
 Option.bind (al t.sys i7) fun x5=>
 ab (decide ((v8:Int)<(x5.kids.length:Int))) (
 ab (decide ((v5'':Int)≤most)) (
  Option.bind (al t.sys i7) fun x6=>
  Option.bind (al x6.kids v8) fun x7=>
  hd (ac x7) (IntKind.wrap .i64 (most-v5'')) fun r8=>
   rec2 (IntKind.wrap .i64 (v5''+r8)) (IntKind.wrap .i64 (v8+1))) (
   rec1 v5'' (IntKind.wrap .i64 (i7+1)))) (
  rec1 v5'' (IntKind.wrap .i64 (i7+1)))
noncomputable def fh {S:Type} (hd:gJ S) (k:Nat) (ret:Int→Option S) (rec1:Int→Int→Option S) (t:Tm) (most i7:Int):Nat→Int→Int→Option S
 |0=>fun _ _=> .none
 |m+1=>fun v5'' v8=>nW hd k ret t most i7 rec1 (fh hd k ret rec1 t most i7 m) v5'' v8
def mz {S:Type} (hd:gJ S) (k:Nat) (ret:Int→Option S) (t:Tm) (most:Int) (J2:Int→Int→Int→Option S) (rec1:Int→Int→Option S) (v5' i7:Int):Option S:=
 ab (decide ((i7:Int)<(t.sys.length:Int))) (
 ab (decide ((v5':Int)≤most)) (
  Option.bind (al t.sys i7) fun x3=>
  ab (decide (((x3.face.length:Int):Int)>most)) (
  ret (IntKind.wrap .i64 (most+1))) (
  Option.bind (al t.sys i7) fun x4=>
    J2 i7 (IntKind.wrap .i64 ((IntKind.wrap .i64 (v5'+1))+(x4.face.length:Int))) 0)) (
  ret v5')) (
 ret v5')
noncomputable def eW {S:Type} (hd:gJ S) (k:Nat) (ret:Int→Option S) (t:Tm) (most:Int):Nat→Int→Int→Option S
 |0=>fun _ _=> .none
 |m+1=>fun v5' i7=>mz hd k ret t most (fun i7 v5'' v8=>fh hd k ret (eW hd k ret t most m) t most i7 k v5'' v8) (eW hd k ret t most m) v5' i7
def my {S:Type} (hd:gJ S) (k:Nat) (ret:Int→Option S) (t:Tm) (most:Int) (J1:Int→Int→Option S) (rec0:Int→Int→Option S) (v5 i6:Int):Option S:=
 ab (decide ((i6:Int)<(t.kids.length:Int))) (
 ab (decide ((v5:Int)≤most)) (
  Option.bind (al t.kids i6) fun x1=>
  hd (ac x1) (IntKind.wrap .i64 (most-v5)) fun r2=>
   rec0 (IntKind.wrap .i64 (v5+r2)) (IntKind.wrap .i64 (i6+1))) (
   J1 v5 0)) (
  J1 v5 0)
noncomputable def g8 {S:Type} (hd:gJ S) (k:Nat) (ret:Int→Option S) (t:Tm) (most:Int):Nat→Int→Int→Option S
 |0=>fun _ _=> .none
 |m+1=>fun v5 i6=>my hd k ret t most (fun v5' i7=>eW hd k ret t most k v5' i7) (g8 hd k ret t most m) v5 i6
def zY {S:Type} (hd:gJ S) (k:Nat) (ret:Int→Option S) (J0:Int→Int→Option S) (t:Tm) (most:Int):Option S:=
 ab (decide (((t.r.length:Int):Int)>most)) (
 ret (IntKind.wrap .i64 (most+1))) (
 ab (decide (((t.name.size:Int):Int)>most)) (
  ret (IntKind.wrap .i64 (most+1))) (
   J0 (IntKind.wrap .i64 ((IntKind.wrap .i64 (1+(t.r.length:Int)))+(t.name.size:Int))) 0))
noncomputable def cP {S:Type}:Nat→Tm→Int→(Int→Option S)→Option S
 |0=>fun _ _ _=> .none
 |k+1=>fun t most ret=>zY (cP k) k ret (fun v5 i6=>g8 (cP k) k ret t most k v5 i6) t most
def F4 {S:Type} (k:Nat) (ret:Bool→Option S) (a b:Tm) (sys:List (Br Tm)):Option S:=
 cP k (ac a) 150 fun r1=>
 ab (decide ((r1:Int)>150)) (
 ret true) (
 cP k (ac b) 150 fun r2=>
 ab (decide ((r2:Int)>150)) (
  ret true) (
  cP k (Tm.mk 0 0 ByteArray.empty [] [] sys) 150 fun r3=>
  ret (decide ((r3:Int)>150))))
noncomputable def jK {S:Type} (k:Nat) (a b:Tm) (sys:List (Br Tm)) (ret:Bool→Option S):Option S:=F4 k ret a b sys
def QY {S:Type} (k:Nat) (ret:Int×Int→Option S) (kind kid:Int):Option S:=
 ab (kind==4) (
 ab (kid==1) (
  ret (1,0)) (
  ret (0,0))) (
 ab (kind==7) (
  ab (kid==1) (
  ret (1,0)) (
  ret (0,0))) (
  ab (kind==5) (
  ab (kid==0) (
   ret (1,0)) (
   ret (0,0))) (
  ab (kind==22) (
   ab (kid==0) (
   ret (1,0)) (
   ret (0,0))) (
   ab (kind==27) (
   ab (kid==0) (
    ret (1,0)) (
    ret (0,0))) (
   ab (kind==11) (
    ab (kid==0) (
    ret (0,1)) (
    ret (0,0))) (
    ab (kind==12) (
    ab (kid==0) (
     ret (0,1)) (
     ret (0,0))) (
    ab (kind==14) (
     ab (kid==0) (
     ret (0,1)) (
     ret (0,0))) (
     ret (0,0)))))))))
noncomputable def kU {S:Type} (k:Nat) (kind kid:Int) (ret:Int×Int→Option S):Option S:=QY k ret kind kid
abbrev dv (S:Type):=Tm→Int→(Bool→Option S)→Option S
noncomputable def GX {S:Type} (hd:dv S) (k:Nat) (ret:Bool→Option S) (a_k:Tm) (p p' c0:Int):Option S:=
 hd (ac a_k) (IntKind.wrap .i64 (c0-1)) fun r1=>
 ret r1
noncomputable def sY {S:Type} (hd:dv S) (k:Nat) (a_k:Tm) (p p' c0:Int) (ret:Bool→Option S):Option S:=GX hd k ret a_k p p' c0
def wy {S:Type} (hd:dv S) (k:Nat) (ret:Bool→Option S) (c0:Int) (t:Tm) (v42:Int) (x4:(Br Tm)) (more9:Int) (rec1:Int→Int→Option S) (rec2:Int→Option S) (v49:Int):Option S:=
 ab (decide ((v49:Int)<(x4.kids.length:Int))) (
 Option.bind (al x4.kids v49) fun x5=>
 aa k (sY hd k (ac x5) 0 more9 c0) fun r6=>
 ab (!r6) (
  ret false) (
   rec2 (IntKind.wrap .i64 (v49+1)))) (
  rec1 (IntKind.wrap .i64 (v42+1)) more9)
noncomputable def lP {S:Type} (hd:dv S) (k:Nat) (ret:Bool→Option S) (rec1:Int→Int→Option S) (c0:Int) (t:Tm) (v42:Int) (x4:(Br Tm)) (more9:Int):Nat→Int→Option S
 |0=>fun _=> .none
 |m+1=>fun v49=>wy hd k ret c0 t v42 x4 more9 rec1 (lP hd k ret rec1 c0 t v42 x4 more9 m) v49
def rX {S:Type} (hd:dv S) (k:Nat) (ret:Bool→Option S) (c0:Int) (t:Tm) (J2:Int→(Br Tm)→Int→Int→Option S) (rec1:Int→Int→Option S) (v42 more9:Int):Option S:=
 ab (decide ((v42:Int)<(t.sys.length:Int))) (
 Option.bind (al t.sys v42) fun x4=>
  J2 v42 x4 more9 0) (
 ret true)
noncomputable def ic {S:Type} (hd:dv S) (k:Nat) (ret:Bool→Option S) (c0:Int) (t:Tm):Nat→Int→Int→Option S
 |0=>fun _ _=> .none
 |m+1=>fun v42 more9=>rX hd k ret c0 t (fun v42 x4 more9 v49=>lP hd k ret (ic hd k ret c0 t m) c0 t v42 x4 more9 k v49) (ic hd k ret c0 t m) v42 more9
def rW {S:Type} (hd:dv S) (k:Nat) (ret:Bool→Option S) (c0:Int) (t:Tm) (J1:Int→Int→Option S) (rec0:Int→Option S) (v17:Int):Option S:=
 ab (decide ((v17:Int)<(t.kids.length:Int))) (
 Option.bind (al t.kids v17) fun x1=>
 aa k (kU k t.kind v17) fun r2=>
 aa k (sY hd k (ac x1) r2.1 r2.2 c0) fun r3=>
 ab (!r3) (
  ret false) (
   rec0 (IntKind.wrap .i64 (v17+1)))) (
 ab (t.kind==15) (
   J1 0 1) (
   J1 0 0))
noncomputable def pP {S:Type} (hd:dv S) (k:Nat) (ret:Bool→Option S) (c0:Int) (t:Tm):Nat→Int→Option S
 |0=>fun _=> .none
 |m+1=>fun v17=>rW hd k ret c0 t (fun v42 more9=>ic hd k ret c0 t k v42 more9) (pP hd k ret c0 t m) v17
noncomputable def GU {S:Type} (hd:dv S) (k:Nat) (ret:Bool→Option S) (J0:Int→Option S) (t:Tm) (c0:Int):Option S:=
 J0 0
noncomputable def B7 {S:Type} (hd:dv S) (k:Nat) (t:Tm) (c0:Int) (ret:Bool→Option S):Option S:=GU hd k ret (fun v17=>pP hd k ret c0 t k v17) t c0
def Q4 {S:Type} (hd:dv S) (k:Nat) (ret:Bool→Option S) (t:Tm) (left:Int):Option S:=
 ab (decide ((left:Int)>0)) (
 aa k (B7 hd k (ac t) left) fun r1=>
 ret r1) (
 ret false)
noncomputable def iZ {S:Type}:Nat→Tm→Int→(Bool→Option S)→Option S
 |0=>fun _ _ _=> .none
 |k+1=>fun t left ret=>Q4 (iZ k) k ret t left
abbrev du (S:Type):=Tm→Int→(Bool×Int→Option S)→Option S
def GZ {S:Type} (hd:du S) (k:Nat) (ret:Bool×Int→Option S) (t:Tm) (c0:Int):Option S:=
 ab (decide ((IntKind.wrap .i64 (c0-1):Int)≥0)) (
 hd (ac t) (IntKind.wrap .i64 (c0-1)) fun r1=>
 ret (r1.1,r1.2)) (
 ret (false,IntKind.wrap .i64 (c0-1)))
noncomputable def oG {S:Type} (hd:du S) (k:Nat) (t:Tm) (c0:Int) (ret:Bool×Int→Option S):Option S:=GZ hd k ret t c0
noncomputable def GY {S:Type} (hd:du S) (k:Nat) (ret:Bool×Int→Option S) (a_k:Tm) (p p' c1:Int):Option S:=
 aa k (oG hd k (ac a_k) c1) fun r1=>
 ret (r1.1,r1.2)
noncomputable def s8 {S:Type} (hd:du S) (k:Nat) (a_k:Tm) (p p' c1:Int) (ret:Bool×Int→Option S):Option S:=GY hd k ret a_k p p' c1
def ww {S:Type} (hd:du S) (k:Nat) (ret:Bool×Int→Option S) (t:Tm) (v42:Int) (x4:(Br Tm)) (more9:Int) (rec1:Int→Int→Int→Option S) (rec2:Int→Int→Option S) (e1_0'' v49:Int):Option S:=
 ab (decide ((v49:Int)<(x4.kids.length:Int))) (
 Option.bind (al x4.kids v49) fun x5=>
 aa k (s8 hd k (ac x5) 0 more9 e1_0'') fun r6=>
 ab (!r6.1) (
  ret (false,r6.2)) (
   rec2 r6.2 (IntKind.wrap .i64 (v49+1)))) (
  rec1 e1_0'' (IntKind.wrap .i64 (v42+1)) more9)
noncomputable def h9 {S:Type} (hd:du S) (k:Nat) (ret:Bool×Int→Option S) (rec1:Int→Int→Int→Option S) (t:Tm) (v42:Int) (x4:(Br Tm)) (more9:Int):Nat→Int→Int→Option S
 |0=>fun _ _=> .none
 |m+1=>fun e1_0'' v49=>ww hd k ret t v42 x4 more9 rec1 (h9 hd k ret rec1 t v42 x4 more9 m) e1_0'' v49
def rT {S:Type} (hd:du S) (k:Nat) (ret:Bool×Int→Option S) (t:Tm) (J2:Int→(Br Tm)→Int→Int→Int→Option S) (rec1:Int→Int→Int→Option S) (e1_0' v42 more9:Int):Option S:=
 ab (decide ((v42:Int)<(t.sys.length:Int))) (
 Option.bind (al t.sys v42) fun x4=>
  J2 v42 x4 more9 e1_0' 0) (
 ret (true,e1_0'))
noncomputable def fN {S:Type} (hd:du S) (k:Nat) (ret:Bool×Int→Option S) (t:Tm):Nat→Int→Int→Int→Option S
 |0=>fun _ _ _=> .none
 |m+1=>fun e1_0' v42 more9=>rT hd k ret t (fun v42 x4 more9 e1_0'' v49=>h9 hd k ret (fN hd k ret t m) t v42 x4 more9 k e1_0'' v49) (fN hd k ret t m) e1_0' v42 more9
def rS {S:Type} (hd:du S) (k:Nat) (ret:Bool×Int→Option S) (t:Tm) (J1:Int→Int→Int→Option S) (rec0:Int→Int→Option S) (e1_0 v17:Int):Option S:=
 ab (decide ((v17:Int)<(t.kids.length:Int))) (
 Option.bind (al t.kids v17) fun x1=>
 aa k (kU k t.kind v17) fun r2=>
 aa k (s8 hd k (ac x1) r2.1 r2.2 e1_0) fun r3=>
 ab (!r3.1) (
  ret (false,r3.2)) (
   rec0 r3.2 (IntKind.wrap .i64 (v17+1)))) (
 ab (t.kind==15) (
   J1 e1_0 0 1) (
   J1 e1_0 0 0))
noncomputable def nh {S:Type} (hd:du S) (k:Nat) (ret:Bool×Int→Option S) (t:Tm):Nat→Int→Int→Option S
 |0=>fun _ _=> .none
 |m+1=>fun e1_0 v17=>rS hd k ret t (fun e1_0' v42 more9=>fN hd k ret t k e1_0' v42 more9) (nh hd k ret t m) e1_0 v17
noncomputable def GS {S:Type} (hd:du S) (k:Nat) (ret:Bool×Int→Option S) (J0:Int→Int→Option S) (t:Tm) (c1:Int):Option S:=
 J0 c1 0
noncomputable def fc {S:Type}:Nat→Tm→Int→(Bool×Int→Option S)→Option S
 |0=>fun _ _ _=> .none
 |k+1=>fun t c1 ret=>GS (fc k) k ret (fun e1_0 v17=>nh (fc k) k ret t k e1_0 v17) t c1
noncomputable def Q6 {S:Type} (k:Nat) (ret:Bool→Option S) (t:Tm) (most:Int):Option S:=
 aa k (oG (fc k) k (ac t) most) fun r1=>
 ret r1.1
noncomputable def xQ {S:Type} (k:Nat) (t:Tm) (most:Int) (ret:Bool→Option S):Option S:=Q6 k ret t most
def Q5 {S:Type} (k:Nat) (ret:Int→Option S) (t:Tm):Option S:=
 iZ k (ac t) 200 fun r1=>
 ab (!r1) (
 ret 62) (
 aa k (xQ k (ac t) 20000) fun r2=>
 ab (!r2) (
  ret 221) (
  ret 0))
noncomputable def sZ {S:Type} (k:Nat) (t:Tm) (ret:Int→Option S):Option S:=Q5 k ret t
def Q0 {S:Type} (k:Nat) (ret:Int→Option S) (kind:Int):Option S:=
 ab (kind==1) (
 ret 0) (
 ab (kind==2) (
  ret 0) (
  ab (kind==3) (
  ret 0) (
  ab (kind==19) (
   ret 0) (
   ab (kind==20) (
   ret 0) (
   ab (kind==24) (
    ret 0) (
    ab (kind==25) (
    ret 0) (
    ab (kind==21) (
     ret 0) (
     ab (kind==5) (
     ret 1) (
     ab (kind==9) (
      ret 1) (
      ab (kind==10) (
      ret 1) (
      ab (kind==23) (
       ret 1) (
       ab (kind==12) (
       ret 1) (
       ab (kind==16) (
        ret 1) (
        ab (kind==17) (
        ret 1) (
        ab (kind==18) (
         ret 1) (
         ab (kind==26) (
         ret 1) (
         ab (kind==4) (
          ret 2) (
          ab (kind==7) (
          ret 2) (
          ab (kind==6) (
           ret 2) (
           ab (kind==8) (
           ret 2) (
           ab (kind==14) (
            ret 2) (
            ab (kind==15) (
            ret 2) (
            ab (kind==28) (
             ret 2) (
             ab (kind==11) (
             ret 3) (
             ab (kind==13) (
              ret 3) (
              ab (kind==22) (
              ret 4) (
              ab (kind==27) (
               ret 5) (
               ret (-1)))))))))))))))))))))))))))))
noncomputable def xN {S:Type} (k:Nat) (kind:Int) (ret:Int→Option S):Option S:=Q0 k ret kind
def Q1 {S:Type} (k:Nat) (ret:Int→Option S) (kind:Int):Option S:=
 ab (kind==15) (
 ret 1) (
 ab (kind==17) (
  ret 1) (
  ab (kind==18) (
  ret 1) (
  ab (kind==16) (
   ret 2) (
   ret 0))))
noncomputable def kW {S:Type} (k:Nat) (kind:Int) (ret:Int→Option S):Option S:=Q1 k ret kind
def Bn {S:Type} (k:Nat) (ret:Bool→Option S) (s:ByteArray) (v8:Int) (x1:UInt8) (rec0:Int→Option S) (letter5:Bool):Option S:=
 ab (!letter5) (
 ab (v8==0) (
  ret false) (
  ab (decide (((x1.toNat:Int):Int)<48)) (
  ret false) (
  ab (decide (((x1.toNat:Int):Int)>57)) (
   ret false) (
     rec0 (IntKind.wrap .i64 (v8+1)))))) (
  rec0 (IntKind.wrap .i64 (v8+1)))
noncomputable def yE {S:Type} (k:Nat) (ret:Bool→Option S) (rec0:Int→Option S) (s:ByteArray) (v8:Int) (x1:UInt8):Nat→Bool→Option S
 |0=>fun _=> .none
 |_+1=>fun letter5=>Bn k ret s v8 x1 rec0 letter5
def rY {S:Type} (k:Nat) (ret:Bool→Option S) (s:ByteArray) (J1:Int→UInt8→Bool→Option S) (rec0:Int→Option S) (v8:Int):Option S:=
 ab (decide ((v8:Int)<(s.size:Int))) (
 Option.bind (al s.data.toList v8) fun x1=>
 ab (decide (((x1.toNat:Int):Int)≥97)) (
  ab (decide (((x1.toNat:Int):Int)≤122)) (
    J1 v8 x1 true) (
  ab (decide (((x1.toNat:Int):Int)≥65)) (
   ab (decide (((x1.toNat:Int):Int)≤90)) (
      J1 v8 x1 true) (
      J1 v8 x1 ((x1.toNat:Int)==95))) (
     J1 v8 x1 ((x1.toNat:Int)==95)))) (
  ab (decide (((x1.toNat:Int):Int)≥65)) (
  ab (decide (((x1.toNat:Int):Int)≤90)) (
     J1 v8 x1 true) (
     J1 v8 x1 ((x1.toNat:Int)==95))) (
    J1 v8 x1 ((x1.toNat:Int)==95)))) (
 ret (!(s==ByteArray.empty)))
noncomputable def nj {S:Type} (k:Nat) (ret:Bool→Option S) (s:ByteArray):Nat→Int→Option S
 |0=>fun _=> .none
 |m+1=>fun v8=>rY k ret s (fun v8 x1 letter5=>yE k ret (nj k ret s m) s v8 x1 k letter5) (nj k ret s m) v8
noncomputable def GV {S:Type} (k:Nat) (ret:Bool→Option S) (J0:Int→Option S) (s:ByteArray):Option S:=
 J0 0
noncomputable def xP {S:Type} (k:Nat) (s:ByteArray) (ret:Bool→Option S):Option S:=GV k ret (fun v8=>nj k ret s k v8) s
noncomputable def P_ {S:Type} (k:Nat) (ret:Bool→Option S) (s:Int):Option S:=
 ret ((be .andNot .u32 s 16777215)==0)
noncomputable def ot {S:Type} (k:Nat) (s:Int) (ret:Bool→Option S):Option S:=P_ k ret s
def Ps {S:Type} (k:Nat) (ret:Bool→Option S) (c:Cl):Option S:=
 aa k (ot k c.pos) fun r1=>
 ab (r1) (
 aa k (ot k c.neg) fun r2=>
 ret r2) (
 ret false)
noncomputable def si {S:Type} (k:Nat) (c:Cl) (ret:Bool→Option S):Option S:=Ps k ret c
noncomputable def Pr {S:Type} (k:Nat) (ret:Cl→Option S) (a b:Cl):Option S:=
 ret (Cl.mk (be .or .u32 a.pos b.pos) (be .or .u32 a.neg b.neg))
noncomputable def oe {S:Type} (k:Nat) (a b:Cl) (ret:Cl→Option S):Option S:=Pr k ret a b
noncomputable def Pm {S:Type} (k:Nat) (ret:Bool→Option S) (a b:Cl):Option S:=
 aa k (oe k a b) fun r1=>
 ret ((r1.pos==a.pos)&&((r1.neg==a.neg)&&true))
noncomputable def wM {S:Type} (k:Nat) (a b:Cl) (ret:Bool→Option S):Option S:=Pm k ret a b
def Pp {S:Type} (k:Nat) (ret:Bool→Option S) (d c0:Cl):Option S:=
 ab (!((c0.pos==d.pos)&&((c0.neg==d.neg)&&true))) (
 aa k (wM k c0 d) fun r1=>
 ret r1) (
 ret false)
noncomputable def wO {S:Type} (k:Nat) (d c0:Cl) (ret:Bool→Option S):Option S:=Pp k ret d c0
def wq {S:Type} (k:Nat) (ret:Int→Option S) (c0:Cl) (s:List Cl) (rec0:Int→Option S) (v8:Int):Option S:=
 ab (decide ((v8:Int)<(s.length:Int))) (
 Option.bind (al s v8) fun x1=>
 aa k (wO k x1 c0) fun r2=>
 ab (r2) (
  ret v8) (
   rec0 (IntKind.wrap .i64 (v8+1)))) (
 ret (-1))
noncomputable def pL {S:Type} (k:Nat) (ret:Int→Option S) (c0:Cl) (s:List Cl):Nat→Int→Option S
 |0=>fun _=> .none
 |m+1=>fun v8=>wq k ret c0 s (pL k ret c0 s m) v8
noncomputable def GO {S:Type} (k:Nat) (ret:Int→Option S) (J0:Int→Option S) (s:List Cl) (c0:Cl):Option S:=
 J0 0
noncomputable def B5 {S:Type} (k:Nat) (s:List Cl) (c0:Cl) (ret:Int→Option S):Option S:=GO k ret (fun v8=>pL k ret c0 s k v8) s c0
noncomputable def QW {S:Type} (k:Nat) (ret:Bool→Option S) (s:List Cl) (c0:Cl):Option S:=
 aa k (B5 k s c0) fun r1=>
 ret (decide ((r1:Int)≥0))
noncomputable def B3 {S:Type} (k:Nat) (s:List Cl) (c0:Cl) (ret:Bool→Option S):Option S:=QW k ret s c0
noncomputable def Po {S:Type} (k:Nat) (ret:Bool→Option S) (c:Cl) (c0:List Cl):Option S:=
 aa k (B3 k c0 c) fun r1=>
 ret r1
noncomputable def wN {S:Type} (k:Nat) (c:Cl) (c0:List Cl) (ret:Bool→Option S):Option S:=Po k ret c c0
def ve {S:Type} (k:Nat) (ret:List Cl×Int→Option S) (b5_0:List Cl) (rec1:Int→(List Cl)→Option S) (v36:Int) (kept9:List Cl):Option S:=
 ab (decide ((v36:Int)<(b5_0.length:Int))) (
 Option.bind (al b5_0 v36) fun x4=>
 aa k (wN k x4 b5_0) fun r5=>
 ab (!r5) (
  Option.bind (ay 1099511627776 kept9.length [x4].length) fun x6=>
   rec1 (IntKind.wrap .i64 (v36+1)) (kept9++[x4])) (
   rec1 (IntKind.wrap .i64 (v36+1)) kept9)) (
 ab (decide (((kept9.length:Int):Int)>64)) (
  ret (([]:List Cl),3)) (
  ret (sortCl kept9,0)))
noncomputable def mW {S:Type} (k:Nat) (ret:List Cl×Int→Option S) (b5_0:List Cl):Nat→Int→(List Cl)→Option S
 |0=>fun _ _=> .none
 |m+1=>fun v36 kept9=>ve k ret b5_0 (mW k ret b5_0 m) v36 kept9
def re {S:Type} (k:Nat) (ret:List Cl×Int→Option S) (l:List Cl) (J1:(List Cl)→Int→(List Cl)→Option S) (rec0:(List (Cl×Bool))→(List Cl)→Int→Option S) (b12_0:List (Cl×Bool)) (b5_0:List Cl) (v15:Int):Option S:=
 ab (decide ((v15:Int)<(l.length:Int))) (
 Option.bind (al l v15) fun x1=>
 aa k (si k x1) fun r2=>
 ab (!r2) (
  ret (([]:List Cl),2)) (
  ab (!((dJ VV ET.C b12_0 x1).getD false)) (
  Option.bind (ay 1099511627776 b5_0.length [x1].length) fun x3=>
    rec0 (fj VV ET.C b12_0 x1 true) (b5_0++[x1]) (IntKind.wrap .i64 (v15+1))) (
    rec0 b12_0 b5_0 (IntKind.wrap .i64 (v15+1))))) (
  J1 b5_0 0 ([]:List Cl))
noncomputable def oX {S:Type} (k:Nat) (ret:List Cl×Int→Option S) (l:List Cl):Nat→(List (Cl×Bool))→(List Cl)→Int→Option S
 |0=>fun _ _ _=> .none
 |m+1=>fun b12_0 b5_0 v15=>re k ret l (fun b5_0 v36 kept9=>mW k ret b5_0 k v36 kept9) (oX k ret l m) b12_0 b5_0 v15
noncomputable def FD {S:Type} (k:Nat) (ret:List Cl×Int→Option S) (J0:(List (Cl×Bool))→(List Cl)→Int→Option S) (l:List Cl):Option S:=
 J0 ([]:List (Cl×Bool)) ([]:List Cl) 0
noncomputable def gf {S:Type} (k:Nat) (l:List Cl) (ret:List Cl×Int→Option S):Option S:=FD k ret (fun b12_0 b5_0 v15=>oX k ret l k b12_0 b5_0 v15) l
def wn {S:Type} (k:Nat) (ret:Bool→Option S) (s1 s2:List Cl) (rec0:Int→Option S) (v13:Int):Option S:=
 ab (decide ((v13:Int)<(s1.length:Int))) (
 Option.bind (al s1 v13) fun x1=>
 Option.bind (al s2 v13) fun x2=>
 ab (!((x1.pos==x2.pos)&&((x1.neg==x2.neg)&&true))) (
  ret false) (
   rec0 (IntKind.wrap .i64 (v13+1)))) (
 ret true)
noncomputable def pK {S:Type} (k:Nat) (ret:Bool→Option S) (s1 s2:List Cl):Nat→Int→Option S
 |0=>fun _=> .none
 |m+1=>fun v13=>wn k ret s1 s2 (pK k ret s1 s2 m) v13
def GN {S:Type} (k:Nat) (ret:Bool→Option S) (J0:Int→Option S) (s1 s2:List Cl):Option S:=
 ab (!((s1.length:Int)==(s2.length:Int))) (
 ret false) (
  J0 0)
noncomputable def xM {S:Type} (k:Nat) (s1 s2:List Cl) (ret:Bool→Option S):Option S:=GN k ret (fun v13=>pK k ret s1 s2 k v13) s1 s2
def PT {S:Type} (k:Nat) (ret:Bool→Option S) (f:List Cl):Option S:=
 aa k (gf k f) fun r1=>
 ab (r1.2==0) (
 aa k (xM k r1.1 f) fun r2=>
 ret r2) (
 ret false)
noncomputable def gS {S:Type} (k:Nat) (f:List Cl) (ret:Bool→Option S):Option S:=PT k ret f
def Qd {S:Type} (k:Nat) (ret:Bool→Option S) (i:Int):Option S:=
 ab (decide ((i:Int)≥0)) (
 ret (decide ((i:Int)<24))) (
 ret false)
noncomputable def mG {S:Type} (k:Nat) (i:Int) (ret:Bool→Option S):Option S:=Qd k ret i
def Qb {S:Type} (k:Nat) (ret:Int→Option S) (s i:Int):Option S:=
 aa k (mG k i) fun r1=>
 ab (!r1) (
 ret (be .and .u32 s 16777215)) (
 Option.bind (bS (0≤(IntKind.wrap .u64 i))) fun x2=>
 ret (be .andNot .u32 (be .and .u32 s 16777215) (IntKind.wrap .u32 (1*2^min (Int.toNat (IntKind.wrap .u64 i)) 32))))
noncomputable def jL {S:Type} (k:Nat) (s i:Int) (ret:Int→Option S):Option S:=Qb k ret s i
def vt {S:Type} (k:Nat) (ret:Int→Option S) (f:List Cl) (rec0:Int→Int→Option S) (s3 v8:Int):Option S:=
 ab (decide ((v8:Int)<(f.length:Int))) (
 Option.bind (al f v8) fun x1=>
  rec0 (be .or .u32 s3 (be .or .u32 x1.pos x1.neg)) (IntKind.wrap .i64 (v8+1))) (
 aa k (jL k s3 (-1)) fun r2=>
 ret r2)
noncomputable def pa {S:Type} (k:Nat) (ret:Int→Option S) (f:List Cl):Nat→Int→Int→Option S
 |0=>fun _ _=> .none
 |m+1=>fun s3 v8=>vt k ret f (pa k ret f m) s3 v8
noncomputable def FT {S:Type} (k:Nat) (ret:Int→Option S) (J0:Int→Int→Option S) (f:List Cl):Option S:=
 J0 0 0
noncomputable def oj {S:Type} (k:Nat) (f:List Cl) (ret:Int→Option S):Option S:=FT k ret (fun s3 v8=>pa k ret f k s3 v8) f
def Q7 {S:Type} (k:Nat) (ret:Bool→Option S) (f:List Cl) (dims:Int):Option S:=
 ab (decide ((dims:Int)≥24)) (
 ret true) (
 aa k (oj k f) fun r1=>
 Option.bind (bS (0≤(IntKind.wrap .u64 dims))) fun x2=>
 ret ((Int.fdiv r1 (2^min (Int.toNat (IntKind.wrap .u64 dims)) 32))==0))
noncomputable def kX {S:Type} (k:Nat) (f:List Cl) (dims:Int) (ret:Bool→Option S):Option S:=Q7 k ret f dims
noncomputable def Pn {S:Type} (k:Nat) (ret:Bool→Option S) (c:Cl):Option S:=
 ret (!((be .and .u32 c.pos c.neg)==0))
noncomputable def sh {S:Type} (k:Nat) (c:Cl) (ret:Bool→Option S):Option S:=Pn k ret c
def ws {S:Type} (k:Nat) (ret:Int→Option S) (s:List Cl) (rec0:Int→Option S) (v8:Int):Option S:=
 ab (decide ((v8:Int)<(s.length:Int))) (
 Option.bind (al s v8) fun x1=>
 aa k (sh k x1) fun r2=>
 ab (r2) (
  ret v8) (
   rec0 (IntKind.wrap .i64 (v8+1)))) (
 ret (-1))
noncomputable def pM {S:Type} (k:Nat) (ret:Int→Option S) (s:List Cl):Nat→Int→Option S
 |0=>fun _=> .none
 |m+1=>fun v8=>ws k ret s (pM k ret s m) v8
noncomputable def GP {S:Type} (k:Nat) (ret:Int→Option S) (J0:Int→Option S) (s:List Cl):Option S:=
 J0 0
noncomputable def B6 {S:Type} (k:Nat) (s:List Cl) (ret:Int→Option S):Option S:=GP k ret (fun v8=>pM k ret s k v8) s
noncomputable def QX {S:Type} (k:Nat) (ret:Bool→Option S) (s:List Cl):Option S:=
 aa k (B6 k s) fun r1=>
 ret (decide ((r1:Int)≥0))
noncomputable def B4 {S:Type} (k:Nat) (s:List Cl) (ret:Bool→Option S):Option S:=QX k ret s
def PH {S:Type} (k:Nat) (ret:Bool→Option S) (f:List Cl):Option S:=
 aa k (gS k f) fun r1=>
 ab (r1) (
 aa k (B4 k f) fun r2=>
 ret (!r2)) (
 ret false)
noncomputable def kN {S:Type} (k:Nat) (f:List Cl) (ret:Bool→Option S):Option S:=PH k ret f
def wz {S:Type} (k:Nat) (ret:Bool→Option S) (t:Tm) (dims:Int) (rec1:Int→Option S) (v109:Int):Option S:=
 ab (decide ((v109:Int)<(t.sys.length:Int))) (
 Option.bind (al t.sys v109) fun x12=>
 aa k (kW k t.kind) fun r13=>
 ab (!((x12.kids.length:Int)==r13)) (
  ret false) (
  aa k (kN k x12.face) fun r14=>
  ab (!r14) (
  ret false) (
  aa k (kX k x12.face dims) fun r15=>
  ab (!r15) (
   ret false) (
     rec1 (IntKind.wrap .i64 (v109+1)))))) (
 ret ((t.r.length:Int)==0))
noncomputable def kf {S:Type} (k:Nat) (ret:Bool→Option S) (t:Tm) (dims:Int):Nat→Int→Option S
 |0=>fun _=> .none
 |m+1=>fun v109=>wz k ret t dims (kf k ret t dims m) v109
def rZ {S:Type} (k:Nat) (ret:Bool→Option S) (t:Tm) (vars dims:Int) (J1:Int→Option S):Option S:=
 ab (t.kind==1) (
 ab ((t.r.length:Int)==0) (
  ab (decide ((t.n:Int)≥0)) (
  ab (decide ((vars:Int)<0)) (
   ret true) (
   ret (decide ((t.n:Int)<vars)))) (
  ret false)) (
  ret false)) (
 ab (t.kind==2) (
  ab ((t.r.length:Int)==0) (
  aa k (xP k t.name) fun r3=>
  ret r3) (
  ret false)) (
  ab (t.kind==13) (
  aa k (gS k t.r) fun r4=>
  ab (r4) (
   aa k (kX k t.r dims) fun r5=>
   ret r5) (
   ret false)) (
  ab (t.kind==21) (
   aa k (gS k t.r) fun r6=>
   ab (r6) (
   aa k (kX k t.r dims) fun r7=>
   ret r7) (
   ret false)) (
   ab (t.kind==26) (
   aa k (gS k t.r) fun r8=>
   ab (r8) (
    aa k (kX k t.r dims) fun r9=>
    ret r9) (
    ret false)) (
   ab (t.kind==14) (
    aa k (kN k t.r) fun r10=>
    ab (r10) (
    aa k (kX k t.r dims) fun r11=>
    ret r11) (
    ret false)) (
       J1 0))))))
noncomputable def yF {S:Type} (k:Nat) (ret:Bool→Option S) (t:Tm) (vars dims:Int):Nat→Option S
 |0=> .none
 |_+1=>rZ k ret t vars dims (fun v109=>kf k ret t dims k v109)
def GW {S:Type} (k:Nat) (ret:Bool→Option S) (J0:Option S) (t:Tm) (vars dims:Int):Option S:=
 aa k (xN k t.kind) fun r1=>
 ab (!(r1==(t.kids.length:Int))) (
 ret false) (
 ab (!(t.kind==1)) (
  ab (!(t.n==0)) (
  ret false) (
  ab (!(t.kind==2)) (
   ab (!(t.name==ByteArray.empty)) (
   ret false) (
   aa k (kW k t.kind) fun r2=>
   ab (r2==0) (
    ab (decide (((t.sys.length:Int):Int)>0)) (
    ret false) (
        J0)) (
       J0))) (
   aa k (kW k t.kind) fun r16=>
   ab (r16==0) (
   ab (decide (((t.sys.length:Int):Int)>0)) (
    ret false) (
       J0)) (
      J0)))) (
  ab (!(t.kind==2)) (
  ab (!(t.name==ByteArray.empty)) (
   ret false) (
   aa k (kW k t.kind) fun r17=>
   ab (r17==0) (
   ab (decide (((t.sys.length:Int):Int)>0)) (
    ret false) (
       J0)) (
      J0))) (
  aa k (kW k t.kind) fun r18=>
  ab (r18==0) (
   ab (decide (((t.sys.length:Int):Int)>0)) (
   ret false) (
      J0)) (
     J0))))
noncomputable def sX {S:Type} (k:Nat) (t:Tm) (vars dims:Int) (ret:Bool→Option S):Option S:=GW k ret (yF k ret t vars dims k) t vars dims
abbrev dt (S:Type):=Tm→Int→Int→Bool→(Bool→Option S)→Option S
def Q3 {S:Type} (hd:dt S) (k:Nat) (ret:Bool→Option S) (a_k:Tm) (v d c0 c1:Int) (c2:Bool):Option S:=
 ab (decide ((c0:Int)<0)) (
 hd (ac a_k) (IntKind.wrap .i64 (c0+0)) (IntKind.wrap .i64 (c1+d)) c2 fun r1=>
 ret r1) (
 hd (ac a_k) (IntKind.wrap .i64 (c0+v)) (IntKind.wrap .i64 (c1+d)) c2 fun r2=>
 ret r2)
noncomputable def sV {S:Type} (hd:dt S) (k:Nat) (a_k:Tm) (v d c0 c1:Int) (c2:Bool) (ret:Bool→Option S):Option S:=Q3 hd k ret a_k v d c0 c1 c2
def wx {S:Type} (hd:dt S) (k:Nat) (ret:Bool→Option S) (c0 c1:Int) (c2:Bool) (t:Tm) (v42:Int) (x4:(Br Tm)) (more9:Int) (rec1:Int→Int→Option S) (rec2:Int→Option S) (v49:Int):Option S:=
 ab (decide ((v49:Int)<(x4.kids.length:Int))) (
 Option.bind (al x4.kids v49) fun x5=>
 aa k (sV hd k (ac x5) 0 more9 c0 c1 c2) fun r6=>
 ab (!r6) (
  ret false) (
   rec2 (IntKind.wrap .i64 (v49+1)))) (
  rec1 (IntKind.wrap .i64 (v42+1)) more9)
noncomputable def lO {S:Type} (hd:dt S) (k:Nat) (ret:Bool→Option S) (rec1:Int→Int→Option S) (c0 c1:Int) (c2:Bool) (t:Tm) (v42:Int) (x4:(Br Tm)) (more9:Int):Nat→Int→Option S
 |0=>fun _=> .none
 |m+1=>fun v49=>wx hd k ret c0 c1 c2 t v42 x4 more9 rec1 (lO hd k ret rec1 c0 c1 c2 t v42 x4 more9 m) v49
def rV {S:Type} (hd:dt S) (k:Nat) (ret:Bool→Option S) (c0 c1:Int) (c2:Bool) (t:Tm) (J2:Int→(Br Tm)→Int→Int→Option S) (rec1:Int→Int→Option S) (v42 more9:Int):Option S:=
 ab (decide ((v42:Int)<(t.sys.length:Int))) (
 Option.bind (al t.sys v42) fun x4=>
  J2 v42 x4 more9 0) (
 ret true)
noncomputable def h_ {S:Type} (hd:dt S) (k:Nat) (ret:Bool→Option S) (c0 c1:Int) (c2:Bool) (t:Tm):Nat→Int→Int→Option S
 |0=>fun _ _=> .none
 |m+1=>fun v42 more9=>rV hd k ret c0 c1 c2 t (fun v42 x4 more9 v49=>lO hd k ret (h_ hd k ret c0 c1 c2 t m) c0 c1 c2 t v42 x4 more9 k v49) (h_ hd k ret c0 c1 c2 t m) v42 more9
def rU {S:Type} (hd:dt S) (k:Nat) (ret:Bool→Option S) (c0 c1:Int) (c2:Bool) (t:Tm) (J1:Int→Int→Option S) (rec0:Int→Option S) (v17:Int):Option S:=
 ab (decide ((v17:Int)<(t.kids.length:Int))) (
 Option.bind (al t.kids v17) fun x1=>
 aa k (kU k t.kind v17) fun r2=>
 aa k (sV hd k (ac x1) r2.1 r2.2 c0 c1 c2) fun r3=>
 ab (!r3) (
  ret false) (
   rec0 (IntKind.wrap .i64 (v17+1)))) (
 ab (t.kind==15) (
   J1 0 1) (
   J1 0 0))
noncomputable def ni {S:Type} (hd:dt S) (k:Nat) (ret:Bool→Option S) (c0 c1:Int) (c2:Bool) (t:Tm):Nat→Int→Option S
 |0=>fun _=> .none
 |m+1=>fun v17=>rU hd k ret c0 c1 c2 t (fun v42 more9=>h_ hd k ret c0 c1 c2 t k v42 more9) (ni hd k ret c0 c1 c2 t m) v17
noncomputable def GT {S:Type} (hd:dt S) (k:Nat) (ret:Bool→Option S) (J0:Int→Option S) (t:Tm) (c0 c1:Int) (c2:Bool):Option S:=
 J0 0
noncomputable def xO {S:Type} (hd:dt S) (k:Nat) (t:Tm) (c0 c1:Int) (c2:Bool) (ret:Bool→Option S):Option S:=GT hd k ret (fun v17=>ni hd k ret c0 c1 c2 t k v17) t c0 c1 c2
def Q2 {S:Type} (hd:dt S) (k:Nat) (ret:Bool→Option S) (t:Tm) (vars dims:Int) (bound:Bool):Option S:=
 ab (bound) (
 ab (decide ((dims:Int)>24)) (
  ret false) (
  aa k (sX k (ac t) vars dims) fun r1=>
  ab (!r1) (
  ret false) (
  aa k (xO hd k (ac t) vars dims bound) fun r2=>
  ret r2))) (
 aa k (sX k (ac t) vars dims) fun r3=>
 ab (!r3) (
  ret false) (
  aa k (xO hd k (ac t) vars dims bound) fun r4=>
  ret r4))
noncomputable def fI {S:Type}:Nat→Tm→Int→Int→Bool→(Bool→Option S)→Option S
 |0=>fun _ _ _ _ _=> .none
 |k+1=>fun t vars dims bound ret=>Q2 (fI k) k ret t vars dims bound
def QZ {S:Type} (k:Nat) (ret:Int→Option S) (t:Tm):Option S:=
 aa k (sZ k (ac t)) fun r1=>
 ab (!(r1==0)) (
 ret r1) (
 fI k (ac t) (-1) 24 false fun r2=>
 ab (!r2) (
  ret 100) (
  ret 0))
noncomputable def kV {S:Type} (k:Nat) (t:Tm) (ret:Int→Option S):Option S:=QZ k ret t
def Ph {S:Type} (k:Nat) (ret:Int→Option S) (a_e c0:Int):Option S:=
 ab (c0==0) (
 ret a_e) (
 ret c0)
noncomputable def gc {S:Type} (k:Nat) (a_e c0:Int) (ret:Int→Option S):Option S:=Ph k ret a_e c0
def vd {S:Type} (k:Nat) (ret:Int→Option S) (l:List Tm) (rec0:Int→Int→Option S) (b7_0 v10:Int):Option S:=
 ab (decide ((v10:Int)<(l.length:Int))) (
 Option.bind (al l v10) fun x1=>
 aa k (kV k (ac x1)) fun r2=>
 aa k (gc k r2 b7_0) fun r3=>
  rec0 r3 (IntKind.wrap .i64 (v10+1))) (
 ret b7_0)
noncomputable def oW {S:Type} (k:Nat) (ret:Int→Option S) (l:List Tm):Nat→Int→Int→Option S
 |0=>fun _ _=> .none
 |m+1=>fun b7_0 v10=>vd k ret l (oW k ret l m) b7_0 v10
noncomputable def Fw {S:Type} (k:Nat) (ret:Int→Option S) (J0:Int→Int→Option S) (l:List Tm):Option S:=
 J0 0 0
noncomputable def gQ {S:Type} (k:Nat) (l:List Tm) (ret:Int→Option S):Option S:=Fw k ret (fun b7_0 v10=>oW k ret l k b7_0 v10) l
noncomputable def eK {S:Type} (k:Nat) (ret:Bool→Option S) (c0:Int):Option S:=
 ret (c0==0)
noncomputable def cr {S:Type} (k:Nat) (c0:Int) (ret:Bool→Option S):Option S:=eK k ret c0
def vB {S:Type} (k:Nat) (ret:Int→Option S) (l:List (List Cl)) (rec0:Int→Option S) (v7:Int):Option S:=
 ab (decide ((v7:Int)<(l.length:Int))) (
 Option.bind (al l v7) fun x1=>
 aa k (gS k x1) fun r2=>
 ab (!r2) (
  ret 2) (
   rec0 (IntKind.wrap .i64 (v7+1)))) (
 ret 0)
noncomputable def pf {S:Type} (k:Nat) (ret:Int→Option S) (l:List (List Cl)):Nat→Int→Option S
 |0=>fun _=> .none
 |m+1=>fun v7=>vB k ret l (pf k ret l m) v7
noncomputable def F1 {S:Type} (k:Nat) (ret:Int→Option S) (J0:Int→Option S) (l:List (List Cl)):Option S:=
 J0 0
noncomputable def om {S:Type} (k:Nat) (l:List (List Cl)) (ret:Int→Option S):Option S:=F1 k ret (fun v7=>pf k ret l k v7) l
noncomputable def FV {S:Type} (k:Nat) (ret:List Cl→Option S):Option S:=
 ret ([]:List Cl)
noncomputable def sz {S:Type} (k:Nat) (ret:List Cl→Option S):Option S:=FV k ret
noncomputable def Qc {S:Type} (k:Nat) (ret:Int→Option S) (i:Int):Option S:=
 Option.bind (bS (0≤(IntKind.wrap .u64 (if 24<i then 24 else i)))) fun x1=>
 ret (IntKind.wrap .u32 (IntKind.wrap .u64 ((IntKind.wrap .u64 (1*2^min (Int.toNat (IntKind.wrap .u64 (if 24<i then 24 else i))) 64))-1)))
noncomputable def ou {S:Type} (k:Nat) (i:Int) (ret:Int→Option S):Option S:=Qc k ret i
def zW {S:Type} (k:Nat) (ret:Int×Int→Option S) (s a_from a_by:Int):Option S:=
 ab (decide ((a_from:Int)<0)) (
 ret (0,2)) (
 ab (decide ((a_by:Int)<0)) (
  ret (0,2)) (
  aa k (ou k a_from) fun r1=>
  aa k (ou k a_from) fun r2=>
  ab ((IntKind.wrap .u64 (be .andNot .u32 (be .and .u32 s 16777215) r2))==0) (
  ret (be .and .u32 (be .and .u32 s 16777215) r1,0)) (
  ab (decide ((a_by:Int)≥24)) (
   ret (0,10)) (
   Option.bind (bS (0≤(IntKind.wrap .u64 a_by))) fun x3=>
   ab (decide ((IntKind.wrap .u64 ((IntKind.wrap .u64 (be .andNot .u32 (be .and .u32 s 16777215) r2))*2^min (Int.toNat (IntKind.wrap .u64 a_by)) 64):Int)>16777215)) (
   ret (0,10)) (
   Option.bind (bS (0≤(IntKind.wrap .u64 a_by))) fun x4=>
   ret (be .or .u32 (be .and .u32 (be .and .u32 s 16777215) r1) (IntKind.wrap .u32 (IntKind.wrap .u64 ((IntKind.wrap .u64 (be .andNot .u32 (be .and .u32 s 16777215) r2))*2^min (Int.toNat (IntKind.wrap .u64 a_by)) 64))),0))))))
noncomputable def kQ {S:Type} (k:Nat) (s a_from a_by:Int) (ret:Int×Int→Option S):Option S:=zW k ret s a_from a_by
def Pq {S:Type} (k:Nat) (ret:Cl×Int→Option S) (c:Cl) (a_from a_by:Int):Option S:=
 aa k (si k c) fun r1=>
 ab (!r1) (
 ret ((Cl.mk 0 0),2)) (
 aa k (kQ k c.pos a_from a_by) fun r2=>
 ab (!(r2.2==0)) (
  ret ((Cl.mk 0 0),r2.2)) (
  aa k (kQ k c.neg a_from a_by) fun r3=>
  ab (!(r3.2==0)) (
  ret ((Cl.mk 0 0),r3.2)) (
  ret ((Cl.mk r2.1 r3.1),0))))
noncomputable def wP {S:Type} (k:Nat) (c:Cl) (a_from a_by:Int) (ret:Cl×Int→Option S):Option S:=Pq k ret c a_from a_by
noncomputable def PP {S:Type} (k:Nat) (ret:List Cl×Int→Option S) (a_have:List Cl) (c:Cl) (c0 c1:Int):Option S:=
 aa k (wP k c c0 c1) fun r1=>
 Option.bind (ay 1099511627776 a_have.length [r1.1].length) fun x2=>
 ret (a_have++[r1.1],r1.2)
noncomputable def BR {S:Type} (k:Nat) (a_have:List Cl) (c:Cl) (c0 c1:Int) (ret:List Cl×Int→Option S):Option S:=PP k ret a_have c c0 c1
def vw {S:Type} (k:Nat) (ret:List Cl×Int→Option S) (c0 c1:Int) (l:List Cl) (rec0:(List Cl)→Int→Option S) (v1:List Cl) (v15:Int):Option S:=
 ab (decide ((v15:Int)<(l.length:Int))) (
 Option.bind (al l v15) fun x1=>
 aa k (BR k v1 x1 c0 c1) fun r2=>
 ab (!(r2.2==0)) (
  ret (([]:List Cl),r2.2)) (
   rec0 r2.1 (IntKind.wrap .i64 (v15+1)))) (
 ret (v1,0))
noncomputable def pd {S:Type} (k:Nat) (ret:List Cl×Int→Option S) (c0 c1:Int) (l:List Cl):Nat→(List Cl)→Int→Option S
 |0=>fun _ _=> .none
 |m+1=>fun v1 v15=>vw k ret c0 c1 l (pd k ret c0 c1 l m) v1 v15
noncomputable def FY {S:Type} (k:Nat) (ret:List Cl×Int→Option S) (J0:(List Cl)→Int→Option S) (l a_from:List Cl) (c0 c1:Int):Option S:=
 J0 a_from 0
noncomputable def xa {S:Type} (k:Nat) (l a_from:List Cl) (c0 c1:Int) (ret:List Cl×Int→Option S):Option S:=FY k ret (fun v1 v15=>pd k ret c0 c1 l k v1 v15) l a_from c0 c1
def PO {S:Type} (k:Nat) (ret:List Cl×Int→Option S) (f:List Cl) (a_from a_by:Int):Option S:=
 aa k (om k [f]) fun r1=>
 ab (!(r1==0)) (
 ret (([]:List Cl),r1)) (
 aa k (sz k) fun r2=>
 aa k (xa k f r2 a_from a_by) fun r3=>
 ab (!(r3.2==0)) (
  ret (([]:List Cl),r3.2)) (
  aa k (gf k r3.1) fun r4=>
  ret (r4.1,r4.2)))
noncomputable def kO {S:Type} (k:Nat) (f:List Cl) (a_from a_by:Int) (ret:List Cl×Int→Option S):Option S:=PO k ret f a_from a_by
def FB {S:Type} (k:Nat) (ret:List Cl×Int→Option S) (f:List Cl) (c0:Int):Option S:=
 aa k (cr k c0) fun r1=>
 ab (!r1) (
 ret (([]:List Cl),c0)) (
 aa k (kO k f 0 1) fun r2=>
 aa k (gc k r2.2 c0) fun r3=>
 ret (r2.1,r3))
noncomputable def iO {S:Type} (k:Nat) (f:List Cl) (c0:Int) (ret:List Cl×Int→Option S):Option S:=FB k ret f c0
def vr {S:Type} (k:Nat) (ret:Int→Option S) (l:List (List Cl)) (rec0:Int→Option S) (v7:Int):Option S:=
 ab (decide ((v7:Int)<(l.length:Int))) (
 Option.bind (al l v7) fun x1=>
 aa k (kN k x1) fun r2=>
 ab (!r2) (
  ret 2) (
   rec0 (IntKind.wrap .i64 (v7+1)))) (
 ret 0)
noncomputable def o_ {S:Type} (k:Nat) (ret:Int→Option S) (l:List (List Cl)):Nat→Int→Option S
 |0=>fun _=> .none
 |m+1=>fun v7=>vr k ret l (o_ k ret l m) v7
noncomputable def FS {S:Type} (k:Nat) (ret:Int→Option S) (J0:Int→Option S) (l:List (List Cl)):Option S:=
 J0 0
noncomputable def w6 {S:Type} (k:Nat) (l:List (List Cl)) (ret:Int→Option S):Option S:=FS k ret (fun v7=>o_ k ret l k v7) l
noncomputable def PL {S:Type} (k:Nat) (ret:List Cl×Int→Option S) (f g:List Cl):Option S:=
 Option.bind (ay 1099511627776 ([]:List Cl).length f.length) fun x1=>
 Option.bind (ay 1099511627776 (([]:List Cl)++f).length g.length) fun x2=>
 aa k (gf k ((([]:List Cl)++f)++g)) fun r3=>
 ret (r3.1,r3.2)
noncomputable def su {S:Type} (k:Nat) (f g:List Cl) (ret:List Cl×Int→Option S):Option S:=PL k ret f g
def PE {S:Type} (k:Nat) (ret:List Cl×Int→Option S) (f g:List Cl):Option S:=
 aa k (w6 k [f,g]) fun r1=>
 ab (!(r1==0)) (
 ret (([]:List Cl),r1)) (
 aa k (su k f g) fun r2=>
 ret (r2.1,r2.2))
noncomputable def wU {S:Type} (k:Nat) (f g:List Cl) (ret:List Cl×Int→Option S):Option S:=PE k ret f g
def FA {S:Type} (k:Nat) (ret:List Cl×Int→Option S) (f g:List Cl) (c0:Int):Option S:=
 aa k (cr k c0) fun r1=>
 ab (!r1) (
 ret (([]:List Cl),c0)) (
 aa k (wU k f g) fun r2=>
 aa k (gc k r2.2 c0) fun r3=>
 ret (r2.1,r3))
noncomputable def kM {S:Type} (k:Nat) (f g:List Cl) (c0:Int) (ret:List Cl×Int→Option S):Option S:=FA k ret f g c0
def P7 {S:Type} (k:Nat) (ret:Pan Int (List Cl)→Option S) (l_0 l_1:Int) (f:List Cl) (a_from:Int):Option S:=
 ab (l_1==0) (
 Option.bind (ay 1099511627776 0 f.length) fun x1=>
 ret (.ok f)) (
 ab (decide ((a_from:Int)≥24)) (
  Option.bind (ay 1099511627776 0 f.length) fun x2=>
  ret (.ok f)) (
  aa k (kO k f a_from l_1) fun r3=>
  ab (!(r3.2==0)) (
  ret (.pan r3.2)) (
  ret (.ok r3.1))))
noncomputable def sA {S:Type} (k:Nat) (l_0 l_1:Int) (f:List Cl) (a_from:Int) (ret:Pan Int (List Cl)→Option S):Option S:=P7 k ret l_0 l_1 f a_from
abbrev fB (S:Type):=Int→Int→Tm→Int→Int→(Pan Int Tm→Option S)→Option S
def vE {S:Type} (hd:fB S) (k:Nat) (ret:Pan Int Tm→Option S) (r12:List Cl) (l_0 l_1:Int) (t:Tm) (b9_1:Int) (r2:List Cl) (b9_4:List Tm) (b9_5:List (Br Tm)) (x10:(Br Tm)) (more14 v d v90:Int) (rec2:(List (Br Tm))→Int→Int→Option S) (rec3:(List Tm)→Int→Option S) (b17_1:List Tm) (v103:Int):Option S:=
 ab (decide ((v103:Int)<(x10.kids.length:Int))) (
 Option.bind (al x10.kids v103) fun x14=>
 hd l_0 l_1 (ac x14) v (IntKind.wrap .i64 (d+more14)) fun r16=>Pan.elim r16 (fun r16=>
  Option.bind (ay 1099511627776 b17_1.length [(ac r16)].length) fun x18=>
   rec3 (b17_1++[(ac r16)]) (IntKind.wrap .i64 (v103+1))) (fun e17=>
  ret (.pan e17))) (
 Option.bind (ay 1099511627776 b9_5.length [(Br.mk r12 b17_1)].length) fun x19=>
  rec2 (b9_5++[(Br.mk r12 b17_1)]) more14 (IntKind.wrap .i64 (v90+1)))
noncomputable def lD {S:Type} (hd:fB S) (k:Nat) (ret:Pan Int Tm→Option S) (rec2:(List (Br Tm))→Int→Int→Option S) (r12:List Cl) (l_0 l_1:Int) (t:Tm) (b9_1:Int) (r2:List Cl) (b9_4:List Tm) (b9_5:List (Br Tm)) (x10:(Br Tm)) (more14 v d v90:Int):Nat→(List Tm)→Int→Option S
 |0=>fun _ _=> .none
 |m+1=>fun b17_1 v103=>vE hd k ret r12 l_0 l_1 t b9_1 r2 b9_4 b9_5 x10 more14 v d v90 rec2 (lD hd k ret rec2 r12 l_0 l_1 t b9_1 r2 b9_4 b9_5 x10 more14 v d v90 m) b17_1 v103
def rj {S:Type} (hd:fB S) (k:Nat) (ret:Pan Int Tm→Option S) (l_0 l_1:Int) (t:Tm) (b9_1:Int) (r2:List Cl) (b9_4:List Tm) (v d:Int) (J3:(List Cl)→(List (Br Tm))→(Br Tm)→Int→Int→(List Tm)→Int→Option S) (rec2:(List (Br Tm))→Int→Int→Option S) (b9_5:List (Br Tm)) (more14 v90:Int):Option S:=
 ab (decide ((v90:Int)<(t.sys.length:Int))) (
 Option.bind (al t.sys v90) fun x10=>
 aa k (sA k l_0 l_1 x10.face d) fun r12=>Pan.elim r12 (fun r12=>
   J3 r12 b9_5 x10 more14 v90 ([]:List Tm) 0) (fun e13=>
  ret (.pan e13))) (
 ret (.ok (Tm.mk t.kind b9_1 t.name r2 b9_4 b9_5)))
noncomputable def fg {S:Type} (hd:fB S) (k:Nat) (ret:Pan Int Tm→Option S) (l_0 l_1:Int) (t:Tm) (b9_1:Int) (r2:List Cl) (b9_4:List Tm) (v d:Int):Nat→(List (Br Tm))→Int→Int→Option S
 |0=>fun _ _ _=> .none
 |m+1=>fun b9_5 more14 v90=>rj hd k ret l_0 l_1 t b9_1 r2 b9_4 v d (fun r12 b9_5 x10 more14 v90 b17_1 v103=>lD hd k ret (fg hd k ret l_0 l_1 t b9_1 r2 b9_4 v d m) r12 l_0 l_1 t b9_1 r2 b9_4 b9_5 x10 more14 v d v90 k b17_1 v103) (fg hd k ret l_0 l_1 t b9_1 r2 b9_4 v d m) b9_5 more14 v90
def ri {S:Type} (hd:fB S) (k:Nat) (ret:Pan Int Tm→Option S) (l_0 l_1:Int) (t:Tm) (b9_1:Int) (r2:List Cl) (v d:Int) (J2:(List Tm)→(List (Br Tm))→Int→Int→Option S) (rec1:(List Tm)→Int→Option S) (b9_4:List Tm) (v57:Int):Option S:=
 ab (decide ((v57:Int)<(t.kids.length:Int))) (
 Option.bind (al t.kids v57) fun x4=>
 aa k (kU k t.kind v57) fun r5=>
 hd l_0 l_1 (ac x4) (IntKind.wrap .i64 (v+r5.1)) (IntKind.wrap .i64 (d+r5.2)) fun r7=>Pan.elim r7 (fun r7=>
  Option.bind (ay 1099511627776 b9_4.length [(ac r7)].length) fun x9=>
   rec1 (b9_4++[(ac r7)]) (IntKind.wrap .i64 (v57+1))) (fun e8=>
  ret (.pan e8))) (
 ab (t.kind==15) (
   J2 b9_4 ([]:List (Br Tm)) 1 0) (
   J2 b9_4 ([]:List (Br Tm)) 0 0))
noncomputable def j7 {S:Type} (hd:fB S) (k:Nat) (ret:Pan Int Tm→Option S) (l_0 l_1:Int) (t:Tm) (b9_1:Int) (r2:List Cl) (v d:Int):Nat→(List Tm)→Int→Option S
 |0=>fun _ _=> .none
 |m+1=>fun b9_4 v57=>ri hd k ret l_0 l_1 t b9_1 r2 v d (fun b9_4 b9_5 more14 v90=>fg hd k ret l_0 l_1 t b9_1 r2 b9_4 v d k b9_5 more14 v90) (j7 hd k ret l_0 l_1 t b9_1 r2 v d m) b9_4 v57
noncomputable def Bh {S:Type} (hd:fB S) (k:Nat) (ret:Pan Int Tm→Option S) (l_0 l_1:Int) (t:Tm) (r2:List Cl) (v d:Int) (J1:Int→(List Tm)→Int→Option S) (b9_1:Int):Option S:=
 J1 b9_1 ([]:List Tm) 0
noncomputable def tA {S:Type} (hd:fB S) (k:Nat) (ret:Pan Int Tm→Option S) (l_0 l_1:Int) (t:Tm) (r2:List Cl) (v d:Int):Nat→Int→Option S
 |0=>fun _=> .none
 |_+1=>fun b9_1=>Bh hd k ret l_0 l_1 t r2 v d (fun b9_1 b9_4 v57=>j7 hd k ret l_0 l_1 t b9_1 r2 v d k b9_4 v57) b9_1
def F7 {S:Type} (hd:fB S) (k:Nat) (ret:Pan Int Tm→Option S) (J0:(List Cl)→Int→Option S) (l_0 l_1:Int) (t:Tm) (v d:Int):Option S:=
 aa k (sA k l_0 l_1 t.r d) fun r2=>Pan.elim r2 (fun r2=>
 ab (t.kind==1) (
  ab (decide ((t.n:Int)≥v)) (
  ab (decide ((t.n:Int)>(IntKind.wrap .i64 (1000000000-l_0)))) (
   ret (.pan 100)) (
     J0 r2 (IntKind.wrap .i64 (t.n+l_0)))) (
    J0 r2 t.n)) (
   J0 r2 t.n)) (fun e3=>
 ret (.pan e3))
noncomputable def dE {S:Type}:Nat→Int→Int→Tm→Int→Int→(Pan Int Tm→Option S)→Option S
 |0=>fun _ _ _ _ _ _=> .none
 |k+1=>fun l_0 l_1 t v d ret=>F7 (dE k) k ret (fun r2 b9_1=>tA (dE k) k ret l_0 l_1 t r2 v d k b9_1) l_0 l_1 t v d
noncomputable def P6 {S:Type} (k:Nat) (ret:Pan Int Tm→Option S) (c0:Int) (c1:Tm) (c2:Int):Option S:=
 dE k 0 c0 (ac c1) 0 (if 24<c2 then 24 else c2) fun r2=>Pan.elim r2 (fun r2=>
 ret (.ok (ac r2))) (fun e3=>
 ret (.pan e3))
noncomputable def xj {S:Type} (k:Nat) (c0:Int) (c1:Tm) (c2:Int) (ret:Pan Int Tm→Option S):Option S:=P6 k ret c0 c1 c2
def vC {S:Type} (k:Nat) (ret:Tm×Int→Option S) (c0:Int) (c1:Tm) (c2:Int) (numbers:List Int) (rec0:Int→Option S) (v19:Int):Option S:=
 ab (decide ((v19:Int)<(numbers.length:Int))) (
 Option.bind (al numbers v19) fun x2=>
 ab (decide ((x2:Int)<0)) (
  ret ((Tm.mk 0 0 ByteArray.empty [] [] []),2)) (
   rec0 (IntKind.wrap .i64 (v19+1)))) (
 aa k (xj k c0 (ac c1) c2) fun r4=>Pan.elim r4 (fun r4=>
  ret ((ac r4),0)) (fun e5=>
  ret ((Tm.mk 0 0 ByteArray.empty [] [] []),e5)))
noncomputable def mZ {S:Type} (k:Nat) (ret:Tm×Int→Option S) (c0:Int) (c1:Tm) (c2:Int) (numbers:List Int):Nat→Int→Option S
 |0=>fun _=> .none
 |m+1=>fun v19=>vC k ret c0 c1 c2 numbers (mZ k ret c0 c1 c2 numbers m) v19
def F5 {S:Type} (k:Nat) (ret:Tm×Int→Option S) (J0:Int→Option S) (t:Tm) (numbers:List Int) (c0:Int) (c1:Tm) (c2:Int):Option S:=
 aa k (kV k (ac t)) fun r1=>
 ab (!(r1==0)) (
 ret ((Tm.mk 0 0 ByteArray.empty [] [] []),r1)) (
  J0 0)
noncomputable def BX {S:Type} (k:Nat) (t:Tm) (numbers:List Int) (c0:Int) (c1:Tm) (c2:Int) (ret:Tm×Int→Option S):Option S:=F5 k ret (fun v19=>mZ k ret c0 c1 c2 numbers k v19) t numbers c0 c1 c2
noncomputable def P5 {S:Type} (k:Nat) (ret:Tm×Int→Option S) (t:Tm) (a_from a_by:Int):Option S:=
 aa k (BX k (ac t) [a_from,a_by] a_by (ac t) a_from) fun r1=>
 ret ((ac r1.1),r1.2)
noncomputable def xh {S:Type} (k:Nat) (t:Tm) (a_from a_by:Int) (ret:Tm×Int→Option S):Option S:=P5 k ret t a_from a_by
def Qa {S:Type} (k:Nat) (ret:Int→Option S) (s i:Int):Option S:=
 aa k (mG k i) fun r1=>
 ab (!r1) (
 ret (be .and .u32 s 16777215)) (
 Option.bind (bS (0≤(IntKind.wrap .u64 i))) fun x2=>
 ret (be .or .u32 (be .and .u32 s 16777215) (IntKind.wrap .u32 (1*2^min (Int.toNat (IntKind.wrap .u64 i)) 32))))
noncomputable def iP {S:Type} (k:Nat) (s i:Int) (ret:Int→Option S):Option S:=Qa k ret s i
noncomputable def af5 {S:Type} (k:Nat) (ret:Int→Option S) (a_x:Int):Option S:=
 Option.bind (al (ByteArray.mk #[0,1,1,2,1,2,2,3,1,2,2,3,2,3,3,4,1,2,2,3,2,3,3,4,2,3,3,4,3,4,4,5,1,2,2,3,2,3,3,4,2,3,3,4,3,4,4,5,2,3,3,4,3,4,4,5,3,4,4,5,4,5,5,6,1,2,2,3,2,3,3,4,2,3,3,4,3,4,4,5,2,3,3,4,3,4,4,5,3,4,4,5,4,5,5,6,2,3,3,4,3,4,4,5,3,4,4,5,4,5,5,6,3,4,4,5,4,5,5,6,4,5,5,6,5,6,6,7,1,2,2,3,2,3,3,4,2,3,3,4,3,4,4,5,2,3,3,4,3,4,4,5,3,4,4,5,4,5,5,6,2,3,3,4,3,4,4,5,3,4,4,5,4,5,5,6,3,4,4,5,4,5,5,6,4,5,5,6,5,6,6,7,2,3,3,4,3,4,4,5,3,4,4,5,4,5,5,6,3,4,4,5,4,5,5,6,4,5,5,6,5,6,6,7,3,4,4,5,4,5,5,6,4,5,5,6,5,6,6,7,4,5,5,6,5,6,6,7,5,6,6,7,6,7,7,8]).data.toList (Int.fdiv a_x (2^min (Int.toNat 24) 32))) fun x1=>
 Option.bind (al (ByteArray.mk #[0,1,1,2,1,2,2,3,1,2,2,3,2,3,3,4,1,2,2,3,2,3,3,4,2,3,3,4,3,4,4,5,1,2,2,3,2,3,3,4,2,3,3,4,3,4,4,5,2,3,3,4,3,4,4,5,3,4,4,5,4,5,5,6,1,2,2,3,2,3,3,4,2,3,3,4,3,4,4,5,2,3,3,4,3,4,4,5,3,4,4,5,4,5,5,6,2,3,3,4,3,4,4,5,3,4,4,5,4,5,5,6,3,4,4,5,4,5,5,6,4,5,5,6,5,6,6,7,1,2,2,3,2,3,3,4,2,3,3,4,3,4,4,5,2,3,3,4,3,4,4,5,3,4,4,5,4,5,5,6,2,3,3,4,3,4,4,5,3,4,4,5,4,5,5,6,3,4,4,5,4,5,5,6,4,5,5,6,5,6,6,7,2,3,3,4,3,4,4,5,3,4,4,5,4,5,5,6,3,4,4,5,4,5,5,6,4,5,5,6,5,6,6,7,3,4,4,5,4,5,5,6,4,5,5,6,5,6,6,7,4,5,5,6,5,6,6,7,5,6,6,7,6,7,7,8]).data.toList (be .and .u32 (Int.fdiv a_x (2^min (Int.toNat 16) 32)) 255)) fun x2=>
 Option.bind (al (ByteArray.mk #[0,1,1,2,1,2,2,3,1,2,2,3,2,3,3,4,1,2,2,3,2,3,3,4,2,3,3,4,3,4,4,5,1,2,2,3,2,3,3,4,2,3,3,4,3,4,4,5,2,3,3,4,3,4,4,5,3,4,4,5,4,5,5,6,1,2,2,3,2,3,3,4,2,3,3,4,3,4,4,5,2,3,3,4,3,4,4,5,3,4,4,5,4,5,5,6,2,3,3,4,3,4,4,5,3,4,4,5,4,5,5,6,3,4,4,5,4,5,5,6,4,5,5,6,5,6,6,7,1,2,2,3,2,3,3,4,2,3,3,4,3,4,4,5,2,3,3,4,3,4,4,5,3,4,4,5,4,5,5,6,2,3,3,4,3,4,4,5,3,4,4,5,4,5,5,6,3,4,4,5,4,5,5,6,4,5,5,6,5,6,6,7,2,3,3,4,3,4,4,5,3,4,4,5,4,5,5,6,3,4,4,5,4,5,5,6,4,5,5,6,5,6,6,7,3,4,4,5,4,5,5,6,4,5,5,6,5,6,6,7,4,5,5,6,5,6,6,7,5,6,6,7,6,7,7,8]).data.toList (be .and .u32 (Int.fdiv a_x (2^min (Int.toNat 8) 32)) 255)) fun x3=>
 Option.bind (al (ByteArray.mk #[0,1,1,2,1,2,2,3,1,2,2,3,2,3,3,4,1,2,2,3,2,3,3,4,2,3,3,4,3,4,4,5,1,2,2,3,2,3,3,4,2,3,3,4,3,4,4,5,2,3,3,4,3,4,4,5,3,4,4,5,4,5,5,6,1,2,2,3,2,3,3,4,2,3,3,4,3,4,4,5,2,3,3,4,3,4,4,5,3,4,4,5,4,5,5,6,2,3,3,4,3,4,4,5,3,4,4,5,4,5,5,6,3,4,4,5,4,5,5,6,4,5,5,6,5,6,6,7,1,2,2,3,2,3,3,4,2,3,3,4,3,4,4,5,2,3,3,4,3,4,4,5,3,4,4,5,4,5,5,6,2,3,3,4,3,4,4,5,3,4,4,5,4,5,5,6,3,4,4,5,4,5,5,6,4,5,5,6,5,6,6,7,2,3,3,4,3,4,4,5,3,4,4,5,4,5,5,6,3,4,4,5,4,5,5,6,4,5,5,6,5,6,6,7,3,4,4,5,4,5,5,6,4,5,5,6,5,6,6,7,4,5,5,6,5,6,6,7,5,6,6,7,6,7,7,8]).data.toList (be .and .u32 a_x 255)) fun x4=>
 ret (IntKind.wrap .i64 (IntKind.wrap .u8 ((IntKind.wrap .u8 ((IntKind.wrap .u8 ((x1.toNat:Int)+(x2.toNat:Int)))+(x3.toNat:Int)))+(x4.toNat:Int))))
noncomputable def HE {S:Type} (k:Nat) (a_x:Int) (ret:Int→Option S):Option S:=af5 k ret a_x
noncomputable def F8 {S:Type} (k:Nat) (ret:Int→Option S) (s:Int):Option S:=
 aa k (HE k (be .and .u32 s 16777215)) fun r1=>
 ret r1
noncomputable def kP {S:Type} (k:Nat) (s:Int) (ret:Int→Option S):Option S:=F8 k ret s
noncomputable def Pu {S:Type} (k:Nat) (ret:Bool→Option S) (i:Int):Option S:=
 aa k (iP k 0 i) fun r1=>
 aa k (kP k r1) fun r2=>
 ret (r2==1)
noncomputable def wQ {S:Type} (k:Nat) (i:Int) (ret:Bool→Option S):Option S:=Pu k ret i
def PD {S:Type} (k:Nat) (ret:Int→Option S) (t:Tm) (i:Int) (a_r:List Cl):Option S:=
 aa k (kV k (ac t)) fun r1=>
 ab (!(r1==0)) (
 ret r1) (
 aa k (wQ k i) fun r2=>
 ab (!r2) (
  ret 2) (
  aa k (gS k a_r) fun r3=>
  ab (!r3) (
  ret 2) (
  ret 0)))
noncomputable def BQ {S:Type} (k:Nat) (t:Tm) (i:Int) (a_r:List Cl) (ret:Int→Option S):Option S:=PD k ret t i a_r
noncomputable def Pz {S:Type} (k:Nat) (ret:Unit→Option S) (c0:Int) (c1:List Cl):Option S:=
 ret ()
noncomputable def BJ {S:Type} (k:Nat) (c0:Int) (c1:List Cl) (ret:Unit→Option S):Option S:=Pz k ret c0 c1
noncomputable def PA {S:Type} (k:Nat) (ret:Unit→Option S) (c0:Int) (c1:List Cl):Option S:=
 ret ()
noncomputable def BL {S:Type} (k:Nat) (c0:Int) (c1:List Cl) (ret:Unit→Option S):Option S:=PA k ret c0 c1
noncomputable def Pw {S:Type} (k:Nat) (ret:Int×List Cl→Option S) (i:Int) (a_r:List Cl):Option S:=
 aa k (BJ k i a_r) fun r1=>
 aa k (BL k i a_r) fun r2=>
 ret (i,a_r)
noncomputable def BI {S:Type} (k:Nat) (i:Int) (a_r:List Cl) (ret:Int×List Cl→Option S):Option S:=Pw k ret i a_r
def P9 {S:Type} (k:Nat) (ret:Bool→Option S) (s i:Int):Option S:=
 aa k (mG k i) fun r1=>
 ab (r1) (
 Option.bind (bS (0≤(IntKind.wrap .u64 i))) fun x2=>
 ret ((be .and .u32 (Int.fdiv s (2^min (Int.toNat (IntKind.wrap .u64 i)) 32)) 1)==1)) (
 ret false)
noncomputable def gT {S:Type} (k:Nat) (s i:Int) (ret:Bool→Option S):Option S:=P9 k ret s i
noncomputable def FF {S:Type} (k:Nat) (ret:List Cl→Option S) (f:List Cl):Option S:=
 Option.bind (ay 1099511627776 0 f.length) fun x1=>
 ret f
noncomputable def sk {S:Type} (k:Nat) (f:List Cl) (ret:List Cl→Option S):Option S:=FF k ret f
noncomputable def PK {S:Type} (k:Nat) (ret:Bool→Option S) (i:Int):Option S:=
 aa k (iP k 0 i) fun r1=>
 aa k (kP k r1) fun r2=>
 ret (r2==1)
noncomputable def wX {S:Type} (k:Nat) (i:Int) (ret:Bool→Option S):Option S:=PK k ret i
noncomputable def PJ {S:Type} (k:Nat) (ret:Cl×Bool→Option S) (c:Cl):Option S:=
 aa k (sh k c) fun r1=>
 ret (c,!r1)
noncomputable def sr {S:Type} (k:Nat) (c:Cl) (ret:Cl×Bool→Option S):Option S:=PJ k ret c
def vo {S:Type} (k:Nat) (ret:List Cl→Option S) (l:List Cl) (rec0:Int→(List Cl)→Option S) (v12:Int) (out5:List Cl):Option S:=
 ab (decide ((v12:Int)<(l.length:Int))) (
 Option.bind (al l v12) fun x1=>
 aa k (sr k x1) fun r2=>
 ab (r2.2) (
  Option.bind (ay 1099511627776 out5.length [r2.1].length) fun x3=>
   rec0 (IntKind.wrap .i64 (v12+1)) (out5++[r2.1])) (
   rec0 (IntKind.wrap .i64 (v12+1)) out5)) (
 ret out5)
noncomputable def o8 {S:Type} (k:Nat) (ret:List Cl→Option S) (l:List Cl):Nat→Int→(List Cl)→Option S
 |0=>fun _ _=> .none
 |m+1=>fun v12 out5=>vo k ret l (o8 k ret l m) v12 out5
noncomputable def FQ {S:Type} (k:Nat) (ret:List Cl→Option S) (J0:Int→(List Cl)→Option S) (l:List Cl):Option S:=
 J0 0 ([]:List Cl)
noncomputable def wZ {S:Type} (k:Nat) (l:List Cl) (ret:List Cl→Option S):Option S:=FQ k ret (fun v12 out5=>o8 k ret l k v12 out5) l
def PF {S:Type} (k:Nat) (ret:List Cl×Int→Option S) (f:List Cl):Option S:=
 aa k (gS k f) fun r1=>
 ab (!r1) (
 ret (([]:List Cl),2)) (
 aa k (wZ k f) fun r2=>
 aa k (gf k r2) fun r3=>
 ret (r3.1,r3.2))
noncomputable def sq {S:Type} (k:Nat) (f:List Cl) (ret:List Cl×Int→Option S):Option S:=PF k ret f
noncomputable def PM {S:Type} (k:Nat) (ret:Cl×Bool→Option S) (b c0:Cl):Option S:=
 aa k (oe k c0 b) fun r1=>
 aa k (sr k r1) fun r2=>
 ret (r2.1,r2.2)
noncomputable def w5 {S:Type} (k:Nat) (b c0:Cl) (ret:Cl×Bool→Option S):Option S:=PM k ret b c0
def vn {S:Type} (k:Nat) (ret:List Cl→Option S) (c0:Cl) (l:List Cl) (rec0:Int→(List Cl)→Option S) (v12:Int) (out5:List Cl):Option S:=
 ab (decide ((v12:Int)<(l.length:Int))) (
 Option.bind (al l v12) fun x1=>
 aa k (w5 k x1 c0) fun r2=>
 ab (r2.2) (
  Option.bind (ay 1099511627776 out5.length [r2.1].length) fun x3=>
   rec0 (IntKind.wrap .i64 (v12+1)) (out5++[r2.1])) (
   rec0 (IntKind.wrap .i64 (v12+1)) out5)) (
 ret out5)
noncomputable def o0 {S:Type} (k:Nat) (ret:List Cl→Option S) (c0:Cl) (l:List Cl):Nat→Int→(List Cl)→Option S
 |0=>fun _ _=> .none
 |m+1=>fun v12 out5=>vn k ret c0 l (o0 k ret c0 l m) v12 out5
noncomputable def FP {S:Type} (k:Nat) (ret:List Cl→Option S) (J0:Int→(List Cl)→Option S) (l:List Cl) (c0:Cl):Option S:=
 J0 0 ([]:List Cl)
noncomputable def wY {S:Type} (k:Nat) (l:List Cl) (c0:Cl) (ret:List Cl→Option S):Option S:=FP k ret (fun v12 out5=>o0 k ret c0 l k v12 out5) l c0
def vq {S:Type} (k:Nat) (ret:List Cl×Int→Option S) (g f:List Cl) (rec0:Int→(List Cl)→Option S) (v11:Int) (out6:List Cl):Option S:=
 ab (decide ((v11:Int)<(f.length:Int))) (
 Option.bind (al f v11) fun x1=>
 aa k (wY k g x1) fun r2=>
 Option.bind (ay 1099511627776 out6.length r2.length) fun x3=>
  rec0 (IntKind.wrap .i64 (v11+1)) (out6++r2)) (
 aa k (gf k out6) fun r4=>
 ret (r4.1,r4.2))
noncomputable def o9 {S:Type} (k:Nat) (ret:List Cl×Int→Option S) (g f:List Cl):Nat→Int→(List Cl)→Option S
 |0=>fun _ _=> .none
 |m+1=>fun v11 out6=>vq k ret g f (o9 k ret g f m) v11 out6
noncomputable def FR {S:Type} (k:Nat) (ret:List Cl×Int→Option S) (J0:Int→(List Cl)→Option S) (f g:List Cl):Option S:=
 J0 0 ([]:List Cl)
noncomputable def oi {S:Type} (k:Nat) (f g:List Cl) (ret:List Cl×Int→Option S):Option S:=FR k ret (fun v11 out6=>o9 k ret g f k v11 out6) f g
noncomputable def FU {S:Type} (k:Nat) (ret:List Cl→Option S):Option S:=
 ret [(Cl.mk 0 0)]
noncomputable def sx {S:Type} (k:Nat) (ret:List Cl→Option S):Option S:=FU k ret
def vA {S:Type} (k:Nat) (ret:List Cl×Int→Option S) (r5:List Int) (rec1:Int→(List Cl)→Option S) (v28:Int) (out4':List Cl):Option S:=
 ab (decide ((v28:Int)<(r5.length:Int))) (
 Option.bind (al r5 v28) fun x6=>
 aa k (iP k 0 x6) fun r7=>
 Option.bind (ay 1099511627776 out4'.length [(Cl.mk r7 0)].length) fun x8=>
  rec1 (IntKind.wrap .i64 (v28+1)) (out4'++[(Cl.mk r7 0)])) (
 aa k (gf k out4') fun r9=>
 ret (r9.1,r9.2))
noncomputable def mY {S:Type} (k:Nat) (ret:List Cl×Int→Option S) (r5:List Int):Nat→Int→(List Cl)→Option S
 |0=>fun _ _=> .none
 |m+1=>fun v28 out4'=>vA k ret r5 (mY k ret r5 m) v28 out4'
def rh {S:Type} (k:Nat) (ret:List Cl×Int→Option S) (c:Cl) (r1:List Int) (J1:(List Int)→Int→(List Cl)→Option S) (rec0:Int→(List Cl)→Option S) (v13:Int) (out4:List Cl):Option S:=
 ab (decide ((v13:Int)<(r1.length:Int))) (
 Option.bind (al r1 v13) fun x2=>
 aa k (iP k 0 x2) fun r3=>
 Option.bind (ay 1099511627776 out4.length [(Cl.mk 0 r3)].length) fun x4=>
  rec0 (IntKind.wrap .i64 (v13+1)) (out4++[(Cl.mk 0 r3)])) (
 ui c.neg fun r5=>
  J1 r5 0 out4)
noncomputable def pe {S:Type} (k:Nat) (ret:List Cl×Int→Option S) (c:Cl) (r1:List Int):Nat→Int→(List Cl)→Option S
 |0=>fun _ _=> .none
 |m+1=>fun v13 out4=>rh k ret c r1 (fun r5 v28 out4'=>mY k ret r5 k v28 out4') (pe k ret c r1 m) v13 out4
noncomputable def F0 {S:Type} (k:Nat) (ret:List Cl×Int→Option S) (J0:(List Int)→Int→(List Cl)→Option S) (c:Cl):Option S:=
 ui c.pos fun r1=>
 J0 r1 0 ([]:List Cl)
noncomputable def xd {S:Type} (k:Nat) (c:Cl) (ret:List Cl×Int→Option S):Option S:=F0 k ret (fun r1 v13 out4=>pe k ret c r1 k v13 out4) c
def vz {S:Type} (k:Nat) (ret:List Cl×Int→Option S) (x1:Cl) (g f:List Cl) (v13:Int) (rec0:Int→(List Cl)→Option S) (rec1:Int→(List Cl)→Option S) (v19:Int) (out6':List Cl):Option S:=
 ab (decide ((v19:Int)<(g.length:Int))) (
 Option.bind (al g v19) fun x2=>
 aa k (oe k x1 x2) fun r3=>
 Option.bind (ay 1099511627776 out6'.length [r3].length) fun x4=>
  rec1 (IntKind.wrap .i64 (v19+1)) (out6'++[r3])) (
  rec0 (IntKind.wrap .i64 (v13+1)) out6')
noncomputable def mX {S:Type} (k:Nat) (ret:List Cl×Int→Option S) (rec0:Int→(List Cl)→Option S) (x1:Cl) (g f:List Cl) (v13:Int):Nat→Int→(List Cl)→Option S
 |0=>fun _ _=> .none
 |m+1=>fun v19 out6'=>vz k ret x1 g f v13 rec0 (mX k ret rec0 x1 g f v13 m) v19 out6'
def rg {S:Type} (k:Nat) (ret:List Cl×Int→Option S) (g f:List Cl) (J1:Cl→Int→Int→(List Cl)→Option S) (rec0:Int→(List Cl)→Option S) (v13:Int) (out6:List Cl):Option S:=
 ab (decide ((v13:Int)<(f.length:Int))) (
 Option.bind (al f v13) fun x1=>
  J1 x1 v13 0 out6) (
 aa k (gf k out6) fun r5=>
 ret (r5.1,r5.2))
noncomputable def lA {S:Type} (k:Nat) (ret:List Cl×Int→Option S) (g f:List Cl):Nat→Int→(List Cl)→Option S
 |0=>fun _ _=> .none
 |m+1=>fun v13 out6=>rg k ret g f (fun x1 v13 v19 out6'=>mX k ret (lA k ret g f m) x1 g f v13 k v19 out6') (lA k ret g f m) v13 out6
noncomputable def FZ {S:Type} (k:Nat) (ret:List Cl×Int→Option S) (J0:Int→(List Cl)→Option S) (f g:List Cl):Option S:=
 J0 0 ([]:List Cl)
noncomputable def jJ {S:Type} (k:Nat) (f g:List Cl) (ret:List Cl×Int→Option S):Option S:=FZ k ret (fun v13 out6=>lA k ret g f k v13 out6) f g
def PY {S:Type} (k:Nat) (ret:List Cl×Int→Option S) (a_have:List Cl) (c:Cl):Option S:=
 aa k (xd k c) fun r1=>
 ab (!(r1.2==0)) (
 ret (([]:List Cl),r1.2)) (
 aa k (jJ k a_have r1.1) fun r2=>
 ret (r2.1,r2.2))
noncomputable def xb {S:Type} (k:Nat) (a_have:List Cl) (c:Cl) (ret:List Cl×Int→Option S):Option S:=PY k ret a_have c
def vv {S:Type} (k:Nat) (ret:List Cl×Int→Option S) (l:List Cl) (rec0:(List Cl)→Int→Option S) (v1:List Cl) (v15:Int):Option S:=
 ab (decide ((v15:Int)<(l.length:Int))) (
 Option.bind (al l v15) fun x1=>
 aa k (xb k v1 x1) fun r2=>
 ab (!(r2.2==0)) (
  ret (([]:List Cl),r2.2)) (
   rec0 r2.1 (IntKind.wrap .i64 (v15+1)))) (
 ret (v1,0))
noncomputable def pc {S:Type} (k:Nat) (ret:List Cl×Int→Option S) (l:List Cl):Nat→(List Cl)→Int→Option S
 |0=>fun _ _=> .none
 |m+1=>fun v1 v15=>vv k ret l (pc k ret l m) v1 v15
noncomputable def FX {S:Type} (k:Nat) (ret:List Cl×Int→Option S) (J0:(List Cl)→Int→Option S) (l a_from:List Cl):Option S:=
 J0 a_from 0
noncomputable def BT {S:Type} (k:Nat) (l a_from:List Cl) (ret:List Cl×Int→Option S):Option S:=FX k ret (fun v1 v15=>pc k ret l k v1 v15) l a_from
noncomputable def PX {S:Type} (k:Nat) (ret:List Cl×Int→Option S) (f:List Cl):Option S:=
 aa k (sx k) fun r1=>
 aa k (BT k f r1) fun r2=>
 ret (r2.1,r2.2)
noncomputable def ol {S:Type} (k:Nat) (f:List Cl) (ret:List Cl×Int→Option S):Option S:=PX k ret f
def PQ {S:Type} (k:Nat) (ret:List Cl×Int→Option S) (f:List Cl):Option S:=
 aa k (om k [f]) fun r1=>
 ab (!(r1==0)) (
 ret (([]:List Cl),r1)) (
 aa k (ol k f) fun r2=>
 ret (r2.1,r2.2))
noncomputable def w8 {S:Type} (k:Nat) (f:List Cl) (ret:List Cl×Int→Option S):Option S:=PQ k ret f
def PG {S:Type} (k:Nat) (ret:List Cl×Int→Option S) (f:List Cl):Option S:=
 aa k (w8 k f) fun r1=>
 ab (!(r1.2==0)) (
 ret (([]:List Cl),r1.2)) (
 aa k (sq k r1.1) fun r2=>
 ret (r2.1,r2.2))
noncomputable def wV {S:Type} (k:Nat) (f:List Cl) (ret:List Cl×Int→Option S):Option S:=PG k ret f
def vm {S:Type} (k:Nat) (ret:List Cl×Int→Option S) (i:Int) (a_r f:List Cl) (v29:Int) (v8:List Cl) (rec0:Int→(List Cl)→Option S) (g11:List Cl) (v13:Int):Option S:=
 ab (v13==0) (
 aa k (su k v8 g11) fun r10=>
 ab (!(r10.2==0)) (
  ret (([]:List Cl),r10.2)) (
   rec0 (IntKind.wrap .i64 (v29+1)) r10.1)) (
 ab (!(v13==0)) (
  ret (([]:List Cl),v13)) (
   rec0 (IntKind.wrap .i64 (v29+1)) v8))
noncomputable def oZ {S:Type} (k:Nat) (ret:List Cl×Int→Option S) (rec0:Int→(List Cl)→Option S) (i:Int) (a_r f:List Cl) (v29:Int) (v8:List Cl):Nat→(List Cl)→Int→Option S
 |0=>fun _ _=> .none
 |_+1=>fun g11 v13=>vm k ret i a_r f v29 v8 rec0 g11 v13
def rf {S:Type} (k:Nat) (ret:List Cl×Int→Option S) (i:Int) (a_r f:List Cl) (J1:Int→(List Cl)→(List Cl)→Int→Option S) (rec0:Int→(List Cl)→Option S) (v29:Int) (v8:List Cl):Option S:=
 ab (decide ((v29:Int)<(f.length:Int))) (
 Option.bind (al f v29) fun x4=>
 aa k (jL k x4.pos i) fun r5=>
 aa k (jL k x4.neg i) fun r6=>
 aa k (gT k x4.pos i) fun r7=>
 ab (r7) (
  aa k (sq k a_r) fun r8=>
  ab (r8.2==0) (
  aa k (oi k [(Cl.mk r5 r6)] r8.1) fun r9=>
    J1 v29 v8 r9.1 r9.2) (
    J1 v29 v8 [(Cl.mk r5 r6)] r8.2)) (
  aa k (gT k x4.neg i) fun r11=>
  ab (r11) (
  aa k (wV k a_r) fun r12=>
  ab (r12.2==0) (
   aa k (oi k [(Cl.mk r5 r6)] r12.1) fun r13=>
     J1 v29 v8 r13.1 r13.2) (
     J1 v29 v8 [(Cl.mk r5 r6)] r12.2)) (
    J1 v29 v8 [(Cl.mk r5 r6)] 0))) (
 ret (v8,0))
noncomputable def lz {S:Type} (k:Nat) (ret:List Cl×Int→Option S) (i:Int) (a_r f:List Cl):Nat→Int→(List Cl)→Option S
 |0=>fun _ _=> .none
 |m+1=>fun v29 v8=>rf k ret i a_r f (fun v29 v8 g11 v13=>oZ k ret (lz k ret i a_r f m) i a_r f v29 v8 k g11 v13) (lz k ret i a_r f m) v29 v8
def FO {S:Type} (k:Nat) (ret:List Cl×Int→Option S) (J0:Int→(List Cl)→Option S) (f:List Cl) (i:Int) (a_r:List Cl):Option S:=
 aa k (kN k f) fun r1=>
 ab (!r1) (
 ret (([]:List Cl),2)) (
 aa k (wX k i) fun r2=>
 ab (!r2) (
  ret (([]:List Cl),2)) (
  aa k (gS k a_r) fun r3=>
  ab (!r3) (
  ret (([]:List Cl),2)) (
    J0 0 [])))
noncomputable def wW {S:Type} (k:Nat) (f:List Cl) (i:Int) (a_r:List Cl) (ret:List Cl×Int→Option S):Option S:=FO k ret (fun v29 v8=>lz k ret i a_r f k v29 v8) f i a_r
def Py {S:Type} (k:Nat) (ret:List Cl×Int→Option S) (f:List Cl) (depth c0:Int) (c1:List Cl):Option S:=
 aa k (oj k f) fun r1=>
 aa k (gT k r1 (IntKind.wrap .i64 (c0+depth))) fun r2=>
 ab (!r2) (
 aa k (sk k f) fun r3=>
 ret (r3,0)) (
 aa k (kO k c1 0 depth) fun r4=>
 ab (!(r4.2==0)) (
  ret (([]:List Cl),r4.2)) (
  aa k (wW k f (IntKind.wrap .i64 (c0+depth)) r4.1) fun r5=>
  ret (r5.1,r5.2)))
noncomputable def sm {S:Type} (k:Nat) (f:List Cl) (depth c0:Int) (c1:List Cl) (ret:List Cl×Int→Option S):Option S:=Py k ret f depth c0 c1
def PN {S:Type} (k:Nat) (ret:List Cl×Int→Option S) (i:Int):Option S:=
 aa k (iP k 0 i) fun r1=>
 aa k (kP k r1) fun r2=>
 ab (r2==0) (
 ret (([]:List Cl),2)) (
 aa k (iP k 0 i) fun r3=>
 ret ([(Cl.mk r3 0)],0))
noncomputable def w7 {S:Type} (k:Nat) (i:Int) (ret:List Cl×Int→Option S):Option S:=PN k ret i
noncomputable def PW {S:Type} (k:Nat) (ret:List Cl×Int→Option S) (f g:List Cl):Option S:=
 Option.bind (ay 1099511627776 ([]:List Cl).length f.length) fun x1=>
 Option.bind (ay 1099511627776 (([]:List Cl)++f).length g.length) fun x2=>
 aa k (gf k ((([]:List Cl)++f)++g)) fun r3=>
 ret (r3.1,r3.2)
noncomputable def mF {S:Type} (k:Nat) (f g:List Cl) (ret:List Cl×Int→Option S):Option S:=PW k ret f g
def PS {S:Type} (k:Nat) (ret:List Cl×Int→Option S) (a_have:List Cl) (c:Cl) (c0:Int) (c1:List Cl):Option S:=
 aa k (jL k c.pos c0) fun r1=>
 aa k (jL k c.neg c0) fun r2=>
 aa k (gT k c.pos c0) fun r3=>
 ab (r3) (
 aa k (jJ k [(Cl.mk r1 r2)] c1) fun r4=>
 ab (!(r4.2==0)) (
  ret (([]:List Cl),r4.2)) (
  aa k (gT k c.neg c0) fun r5=>
  ab (r5) (
  aa k (ol k c1) fun r6=>
  ab (!(r6.2==0)) (
   ret (([]:List Cl),r6.2)) (
   aa k (jJ k r4.1 r6.1) fun r7=>
   ab (!(r7.2==0)) (
   ret (([]:List Cl),r7.2)) (
   aa k (mF k a_have r7.1) fun r8=>
   ret (r8.1,r8.2)))) (
  aa k (mF k a_have r4.1) fun r9=>
  ret (r9.1,r9.2)))) (
 aa k (gT k c.neg c0) fun r10=>
 ab (r10) (
  aa k (ol k c1) fun r11=>
  ab (!(r11.2==0)) (
  ret (([]:List Cl),r11.2)) (
  aa k (jJ k [(Cl.mk r1 r2)] r11.1) fun r12=>
  ab (!(r12.2==0)) (
   ret (([]:List Cl),r12.2)) (
   aa k (mF k a_have r12.1) fun r13=>
   ret (r13.1,r13.2)))) (
  aa k (mF k a_have [(Cl.mk r1 r2)]) fun r14=>
  ret (r14.1,r14.2)))
noncomputable def w_ {S:Type} (k:Nat) (a_have:List Cl) (c:Cl) (c0:Int) (c1:List Cl) (ret:List Cl×Int→Option S):Option S:=PS k ret a_have c c0 c1
def vu {S:Type} (k:Nat) (ret:List Cl×Int→Option S) (c0:Int) (c1 l:List Cl) (rec0:(List Cl)→Int→Option S) (v1:List Cl) (v15:Int):Option S:=
 ab (decide ((v15:Int)<(l.length:Int))) (
 Option.bind (al l v15) fun x1=>
 aa k (w_ k v1 x1 c0 c1) fun r2=>
 ab (!(r2.2==0)) (
  ret (([]:List Cl),r2.2)) (
   rec0 r2.1 (IntKind.wrap .i64 (v15+1)))) (
 ret (v1,0))
noncomputable def pb {S:Type} (k:Nat) (ret:List Cl×Int→Option S) (c0:Int) (c1 l:List Cl):Nat→(List Cl)→Int→Option S
 |0=>fun _ _=> .none
 |m+1=>fun v1 v15=>vu k ret c0 c1 l (pb k ret c0 c1 l m) v1 v15
noncomputable def FW {S:Type} (k:Nat) (ret:List Cl×Int→Option S) (J0:(List Cl)→Int→Option S) (l a_from:List Cl) (c0:Int) (c1:List Cl):Option S:=
 J0 a_from 0
noncomputable def BS {S:Type} (k:Nat) (l a_from:List Cl) (c0:Int) (c1:List Cl) (ret:List Cl×Int→Option S):Option S:=FW k ret (fun v1 v15=>pb k ret c0 c1 l k v1 v15) l a_from c0 c1
def PR {S:Type} (k:Nat) (ret:List Cl×Int→Option S) (f:List Cl) (i:Int) (a_r:List Cl):Option S:=
 aa k (om k [f,a_r]) fun r1=>
 ab (!(r1==0)) (
 ret (([]:List Cl),r1)) (
 aa k (w7 k i) fun r2=>
 ab (!(r2.2==0)) (
  ret (([]:List Cl),r2.2)) (
  aa k (sz k) fun r3=>
  aa k (BS k f r3 i a_r) fun r4=>
  ret (r4.1,r4.2)))
noncomputable def w9 {S:Type} (k:Nat) (f:List Cl) (i:Int) (a_r:List Cl) (ret:List Cl×Int→Option S):Option S:=PR k ret f i a_r
def Px {S:Type} (k:Nat) (ret:List Cl×Int→Option S) (f:List Cl) (depth c0:Int) (c1:List Cl):Option S:=
 aa k (oj k f) fun r1=>
 aa k (gT k r1 (IntKind.wrap .i64 (c0+depth))) fun r2=>
 ab (!r2) (
 aa k (sk k f) fun r3=>
 ret (r3,0)) (
 aa k (kO k c1 0 depth) fun r4=>
 ab (!(r4.2==0)) (
  ret (([]:List Cl),r4.2)) (
  aa k (w9 k f (IntKind.wrap .i64 (c0+depth)) r4.1) fun r5=>
  ret (r5.1,r5.2)))
noncomputable def wR {S:Type} (k:Nat) (f:List Cl) (depth c0:Int) (c1:List Cl) (ret:List Cl×Int→Option S):Option S:=Px k ret f depth c0 c1
def PB {S:Type} (k:Nat) (ret:List Cl×Int→Option S) (t:Tm) (depth c0:Int) (c1:List Cl):Option S:=
 ab (t.kind==14) (
 aa k (sm k t.r depth c0 c1) fun r1=>
 ret (r1.1,r1.2)) (
 aa k (wR k t.r depth c0 c1) fun r2=>
 ret (r2.1,r2.2))
noncomputable def wS {S:Type} (k:Nat) (t:Tm) (depth c0:Int) (c1:List Cl) (ret:List Cl×Int→Option S):Option S:=PB k ret t depth c0 c1
noncomputable def FK {S:Type} (k:Nat) (ret:Int→Option S) (i:Int) (c0:Tm):Option S:=
 aa k (kU k c0.kind i) fun r1=>
 ret r1.2
noncomputable def sn {S:Type} (k:Nat) (i:Int) (c0:Tm) (ret:Int→Option S):Option S:=FK k ret i c0
noncomputable def FL {S:Type} (k:Nat) (ret:Int→Option S) (p c0:Int):Option S:=
 ret c0
noncomputable def so {S:Type} (k:Nat) (p c0:Int) (ret:Int→Option S):Option S:=FL k ret p c0
abbrev c_ (S:Type):=Tm→Int→Int→(List Cl)→(Tm×Int→Option S)→Option S
def vi {S:Type} (hd:c_ S) (k:Nat) (ret:List Tm×Int→Option S) (c0:Int) (c1:List Cl) (c4:Int) (l:List Tm) (depth:Int) (rec0:(List Tm)→Int→Option S) (out10:List Tm) (v17:Int):Option S:=
 ab (decide ((v17:Int)<(l.length:Int))) (
 Option.bind (al l v17) fun x1=>
 aa k (so k v17 c4) fun r2=>
 hd (ac x1) (IntKind.wrap .i64 (depth+r2)) c0 c1 fun r3=>
 ab (!(r3.2==0)) (
  ret (([]:List Tm),r3.2)) (
  Option.bind (ay 1099511627776 out10.length [(ac r3.1)].length) fun x4=>
   rec0 (out10++[(ac r3.1)]) (IntKind.wrap .i64 (v17+1)))) (
 ret (out10,0))
noncomputable def lx {S:Type} (hd:c_ S) (k:Nat) (ret:List Tm×Int→Option S) (c0:Int) (c1:List Cl) (c4:Int) (l:List Tm) (depth:Int):Nat→(List Tm)→Int→Option S
 |0=>fun _ _=> .none
 |m+1=>fun out10 v17=>vi hd k ret c0 c1 c4 l depth (lx hd k ret c0 c1 c4 l depth m) out10 v17
noncomputable def FI {S:Type} (hd:c_ S) (k:Nat) (ret:List Tm×Int→Option S) (J0:(List Tm)→Int→Option S) (l:List Tm) (depth c0:Int) (c1:List Cl) (c4:Int):Option S:=
 J0 ([]:List Tm) 0
noncomputable def BO {S:Type} (hd:c_ S) (k:Nat) (l:List Tm) (depth c0:Int) (c1:List Cl) (c4:Int) (ret:List Tm×Int→Option S):Option S:=FI hd k ret (fun out10 v17=>lx hd k ret c0 c1 c4 l depth k out10 v17) l depth c0 c1 c4
def vj {S:Type} (hd:c_ S) (k:Nat) (ret:List Tm×Int→Option S) (c0:Int) (c1:List Cl) (c4:Tm) (l:List Tm) (depth:Int) (rec0:(List Tm)→Int→Option S) (out10:List Tm) (v17:Int):Option S:=
 ab (decide ((v17:Int)<(l.length:Int))) (
 Option.bind (al l v17) fun x1=>
 aa k (sn k v17 (ac c4)) fun r2=>
 hd (ac x1) (IntKind.wrap .i64 (depth+r2)) c0 c1 fun r3=>
 ab (!(r3.2==0)) (
  ret (([]:List Tm),r3.2)) (
  Option.bind (ay 1099511627776 out10.length [(ac r3.1)].length) fun x4=>
   rec0 (out10++[(ac r3.1)]) (IntKind.wrap .i64 (v17+1)))) (
 ret (out10,0))
noncomputable def ly {S:Type} (hd:c_ S) (k:Nat) (ret:List Tm×Int→Option S) (c0:Int) (c1:List Cl) (c4:Tm) (l:List Tm) (depth:Int):Nat→(List Tm)→Int→Option S
 |0=>fun _ _=> .none
 |m+1=>fun out10 v17=>vj hd k ret c0 c1 c4 l depth (ly hd k ret c0 c1 c4 l depth m) out10 v17
noncomputable def FJ {S:Type} (hd:c_ S) (k:Nat) (ret:List Tm×Int→Option S) (J0:(List Tm)→Int→Option S) (l:List Tm) (depth c0:Int) (c1:List Cl) (c4:Tm):Option S:=
 J0 ([]:List Tm) 0
noncomputable def BP {S:Type} (hd:c_ S) (k:Nat) (l:List Tm) (depth c0:Int) (c1:List Cl) (c4:Tm) (ret:List Tm×Int→Option S):Option S:=FJ hd k ret (fun out10 v17=>ly hd k ret c0 c1 c4 l depth k out10 v17) l depth c0 c1 c4
def vk {S:Type} (hd:c_ S) (k:Nat) (ret:Tm×Int→Option S) (c0:Int) (c1:List Cl) (t:Tm) (r1:List Cl×Int) (r2:List Tm×Int) (depth:Int) (rec0:Int→(List (Br Tm))→Int→Option S) (b10_0:Int) (b8_5:List (Br Tm)) (v55:Int):Option S:=
 ab (decide ((v55:Int)<(t.sys.length:Int))) (
 Option.bind (al t.sys v55) fun x3=>
 aa k (sm k x3.face depth c0 c1) fun r4=>
 ab (!(r4.2==0)) (
  ret ((Tm.mk 0 0 ByteArray.empty [] [] []),r4.2)) (
  ab ((r4.1.length:Int)==0) (
    rec0 b10_0 b8_5 (IntKind.wrap .i64 (v55+1))) (
  aa k (BO hd k x3.kids depth c0 c1 b10_0) fun r5=>
  ab (!(r5.2==0)) (
   ret ((Tm.mk 0 0 ByteArray.empty [] [] []),r5.2)) (
   Option.bind (ay 1099511627776 b8_5.length [(Br.mk r4.1 r5.1)].length) fun x6=>
     rec0 b10_0 (b8_5++[(Br.mk r4.1 r5.1)]) (IntKind.wrap .i64 (v55+1)))))) (
 ret ((Tm.mk t.kind t.n t.name r1.1 r2.1 b8_5),0))
noncomputable def fL {S:Type} (hd:c_ S) (k:Nat) (ret:Tm×Int→Option S) (c0:Int) (c1:List Cl) (t:Tm) (r1:List Cl×Int) (r2:List Tm×Int) (depth:Int):Nat→Int→(List (Br Tm))→Int→Option S
 |0=>fun _ _ _=> .none
 |m+1=>fun b10_0 b8_5 v55=>vk hd k ret c0 c1 t r1 r2 depth (fL hd k ret c0 c1 t r1 r2 depth m) b10_0 b8_5 v55
def FM {S:Type} (hd:c_ S) (k:Nat) (ret:Tm×Int→Option S) (J0:(List Cl×Int)→(List Tm×Int)→Int→(List (Br Tm))→Int→Option S) (t:Tm) (depth c0:Int) (c1:List Cl):Option S:=
 aa k (wS k (ac t) depth c0 c1) fun r1=>
 ab (!(r1.2==0)) (
 ret ((Tm.mk 0 0 ByteArray.empty [] [] []),r1.2)) (
 aa k (BP hd k t.kids depth c0 c1 (ac t)) fun r2=>
 ab (!(r2.2==0)) (
  ret ((Tm.mk 0 0 ByteArray.empty [] [] []),r2.2)) (
  ab (t.kind==15) (
    J0 r1 r2 1 ([]:List (Br Tm)) 0) (
    J0 r1 r2 0 ([]:List (Br Tm)) 0)))
noncomputable def dX {S:Type}:Nat→Tm→Int→Int→(List Cl)→(Tm×Int→Option S)→Option S
 |0=>fun _ _ _ _ _=> .none
 |k+1=>fun t depth c0 c1 ret=>FM (dX k) k ret (fun r1 r2 b10_0 b8_5 v55=>fL (dX k) k ret c0 c1 t r1 r2 depth k b10_0 b8_5 v55) t depth c0 c1
noncomputable def Pv {S:Type} (k:Nat) (ret:Int→Option S) (i:Int):Option S:=
 ret i
noncomputable def BH {S:Type} (k:Nat) (i:Int) (ret:Int→Option S):Option S:=Pv k ret i
def P8 {S:Type} (k:Nat) (ret:Int→Option S) (s i:Int):Option S:=
 aa k (mG k i) fun r1=>
 ab (!r1) (
 ret (be .and .u32 s 16777215)) (
 aa k (ou k i) fun r2=>
 Option.bind (bS (0≤(IntKind.wrap .u64 (IntKind.wrap .i64 (i+1))))) fun x3=>
 Option.bind (bS (0≤(IntKind.wrap .u64 i))) fun x4=>
 ret (be .or .u32 (be .and .u32 (be .and .u32 s 16777215) r2) (IntKind.wrap .u32 ((Int.fdiv (be .and .u32 s 16777215) (2^min (Int.toNat (IntKind.wrap .u64 (IntKind.wrap .i64 (i+1)))) 32))*2^min (Int.toNat (IntKind.wrap .u64 i)) 32))))
noncomputable def oq {S:Type} (k:Nat) (s i:Int) (ret:Int→Option S):Option S:=P8 k ret s i
def vf {S:Type} (k:Nat) (ret:List Cl×Int→Option S) (c0 depth:Int) (f:List Cl) (rec0:Int→(List Cl)→Option S) (v12:Int) (out7:List Cl):Option S:=
 ab (decide ((v12:Int)<(f.length:Int))) (
 Option.bind (al f v12) fun x1=>
 aa k (oq k x1.pos (IntKind.wrap .i64 (c0+depth))) fun r2=>
 aa k (oq k x1.neg (IntKind.wrap .i64 (c0+depth))) fun r3=>
 Option.bind (ay 1099511627776 out7.length [(Cl.mk r2 r3)].length) fun x4=>
  rec0 (IntKind.wrap .i64 (v12+1)) (out7++[(Cl.mk r2 r3)])) (
 aa k (gf k out7) fun r5=>
 ret (r5.1,r5.2))
noncomputable def oY {S:Type} (k:Nat) (ret:List Cl×Int→Option S) (c0 depth:Int) (f:List Cl):Nat→Int→(List Cl)→Option S
 |0=>fun _ _=> .none
 |m+1=>fun v12 out7=>vf k ret c0 depth f (oY k ret c0 depth f m) v12 out7
noncomputable def FE {S:Type} (k:Nat) (ret:List Cl×Int→Option S) (J0:Int→(List Cl)→Option S) (f:List Cl) (depth c0:Int):Option S:=
 J0 0 ([]:List Cl)
noncomputable def oh {S:Type} (k:Nat) (f:List Cl) (depth c0:Int) (ret:List Cl×Int→Option S):Option S:=FE k ret (fun v12 out7=>oY k ret c0 depth f k v12 out7) f depth c0
def PC {S:Type} (k:Nat) (ret:List Cl×Int→Option S) (t:Tm) (depth c0:Int):Option S:=
 ab (t.kind==14) (
 aa k (oh k t.r depth c0) fun r1=>
 ret (r1.1,r1.2)) (
 aa k (oh k t.r depth c0) fun r2=>
 ret (r2.1,r2.2))
noncomputable def wT {S:Type} (k:Nat) (t:Tm) (depth c0:Int) (ret:List Cl×Int→Option S):Option S:=PC k ret t depth c0
abbrev da (S:Type):=Tm→Int→Int→(Tm×Int→Option S)→Option S
def vg {S:Type} (hd:da S) (k:Nat) (ret:List Tm×Int→Option S) (c0 c1:Int) (l:List Tm) (depth:Int) (rec0:(List Tm)→Int→Option S) (out10:List Tm) (v17:Int):Option S:=
 ab (decide ((v17:Int)<(l.length:Int))) (
 Option.bind (al l v17) fun x1=>
 aa k (so k v17 c1) fun r2=>
 hd (ac x1) (IntKind.wrap .i64 (depth+r2)) c0 fun r3=>
 ab (!(r3.2==0)) (
  ret (([]:List Tm),r3.2)) (
  Option.bind (ay 1099511627776 out10.length [(ac r3.1)].length) fun x4=>
   rec0 (out10++[(ac r3.1)]) (IntKind.wrap .i64 (v17+1)))) (
 ret (out10,0))
noncomputable def lv {S:Type} (hd:da S) (k:Nat) (ret:List Tm×Int→Option S) (c0 c1:Int) (l:List Tm) (depth:Int):Nat→(List Tm)→Int→Option S
 |0=>fun _ _=> .none
 |m+1=>fun out10 v17=>vg hd k ret c0 c1 l depth (lv hd k ret c0 c1 l depth m) out10 v17
noncomputable def FG {S:Type} (hd:da S) (k:Nat) (ret:List Tm×Int→Option S) (J0:(List Tm)→Int→Option S) (l:List Tm) (depth c0 c1:Int):Option S:=
 J0 ([]:List Tm) 0
noncomputable def BM {S:Type} (hd:da S) (k:Nat) (l:List Tm) (depth c0 c1:Int) (ret:List Tm×Int→Option S):Option S:=FG hd k ret (fun out10 v17=>lv hd k ret c0 c1 l depth k out10 v17) l depth c0 c1
def vh {S:Type} (hd:da S) (k:Nat) (ret:List Tm×Int→Option S) (c0:Int) (c1:Tm) (l:List Tm) (depth:Int) (rec0:(List Tm)→Int→Option S) (out10:List Tm) (v17:Int):Option S:=
 ab (decide ((v17:Int)<(l.length:Int))) (
 Option.bind (al l v17) fun x1=>
 aa k (sn k v17 (ac c1)) fun r2=>
 hd (ac x1) (IntKind.wrap .i64 (depth+r2)) c0 fun r3=>
 ab (!(r3.2==0)) (
  ret (([]:List Tm),r3.2)) (
  Option.bind (ay 1099511627776 out10.length [(ac r3.1)].length) fun x4=>
   rec0 (out10++[(ac r3.1)]) (IntKind.wrap .i64 (v17+1)))) (
 ret (out10,0))
noncomputable def lw {S:Type} (hd:da S) (k:Nat) (ret:List Tm×Int→Option S) (c0:Int) (c1:Tm) (l:List Tm) (depth:Int):Nat→(List Tm)→Int→Option S
 |0=>fun _ _=> .none
 |m+1=>fun out10 v17=>vh hd k ret c0 c1 l depth (lw hd k ret c0 c1 l depth m) out10 v17
noncomputable def FH {S:Type} (hd:da S) (k:Nat) (ret:List Tm×Int→Option S) (J0:(List Tm)→Int→Option S) (l:List Tm) (depth c0:Int) (c1:Tm):Option S:=
 J0 ([]:List Tm) 0
noncomputable def BN {S:Type} (hd:da S) (k:Nat) (l:List Tm) (depth c0:Int) (c1:Tm) (ret:List Tm×Int→Option S):Option S:=FH hd k ret (fun out10 v17=>lw hd k ret c0 c1 l depth k out10 v17) l depth c0 c1
def vl {S:Type} (hd:da S) (k:Nat) (ret:Tm×Int→Option S) (c0:Int) (t:Tm) (r1:List Cl×Int) (r2:List Tm×Int) (depth:Int) (rec0:Int→(List (Br Tm))→Int→Option S) (b10_0:Int) (b8_5:List (Br Tm)) (v55:Int):Option S:=
 ab (decide ((v55:Int)<(t.sys.length:Int))) (
 Option.bind (al t.sys v55) fun x3=>
 aa k (oh k x3.face depth c0) fun r4=>
 ab (!(r4.2==0)) (
  ret ((Tm.mk 0 0 ByteArray.empty [] [] []),r4.2)) (
  ab ((r4.1.length:Int)==0) (
    rec0 b10_0 b8_5 (IntKind.wrap .i64 (v55+1))) (
  aa k (BM hd k x3.kids depth c0 b10_0) fun r5=>
  ab (!(r5.2==0)) (
   ret ((Tm.mk 0 0 ByteArray.empty [] [] []),r5.2)) (
   Option.bind (ay 1099511627776 b8_5.length [(Br.mk r4.1 r5.1)].length) fun x6=>
     rec0 b10_0 (b8_5++[(Br.mk r4.1 r5.1)]) (IntKind.wrap .i64 (v55+1)))))) (
 ret ((Tm.mk t.kind t.n t.name r1.1 r2.1 b8_5),0))
noncomputable def fM {S:Type} (hd:da S) (k:Nat) (ret:Tm×Int→Option S) (c0:Int) (t:Tm) (r1:List Cl×Int) (r2:List Tm×Int) (depth:Int):Nat→Int→(List (Br Tm))→Int→Option S
 |0=>fun _ _ _=> .none
 |m+1=>fun b10_0 b8_5 v55=>vl hd k ret c0 t r1 r2 depth (fM hd k ret c0 t r1 r2 depth m) b10_0 b8_5 v55
def FN {S:Type} (hd:da S) (k:Nat) (ret:Tm×Int→Option S) (J0:(List Cl×Int)→(List Tm×Int)→Int→(List (Br Tm))→Int→Option S) (t:Tm) (depth c0:Int):Option S:=
 aa k (wT k (ac t) depth c0) fun r1=>
 ab (!(r1.2==0)) (
 ret ((Tm.mk 0 0 ByteArray.empty [] [] []),r1.2)) (
 aa k (BN hd k t.kids depth c0 (ac t)) fun r2=>
 ab (!(r2.2==0)) (
  ret ((Tm.mk 0 0 ByteArray.empty [] [] []),r2.2)) (
  ab (t.kind==15) (
    J0 r1 r2 1 ([]:List (Br Tm)) 0) (
    J0 r1 r2 0 ([]:List (Br Tm)) 0)))
noncomputable def dR {S:Type}:Nat→Tm→Int→Int→(Tm×Int→Option S)→Option S
 |0=>fun _ _ _ _=> .none
 |k+1=>fun t depth c0 ret=>FN (dR k) k ret (fun r1 r2 b10_0 b8_5 v55=>fM (dR k) k ret c0 t r1 r2 depth k b10_0 b8_5 v55) t depth c0
def Pt {S:Type} (k:Nat) (ret:Tm×Int→Option S) (t:Tm) (i:Int) (a_r:List Cl):Option S:=
 aa k (BQ k (ac t) i a_r) fun r1=>
 ab (!(r1==0)) (
 ret ((Tm.mk 0 0 ByteArray.empty [] [] []),r1)) (
 aa k (kO k a_r i 1) fun r2=>
 ab (!(r2.2==0)) (
  ret ((Tm.mk 0 0 ByteArray.empty [] [] []),r2.2)) (
  aa k (BI k i r2.1) fun r3=>
  dX k (ac t) 0 r3.1 r3.2 fun r4=>
  ab (!(r4.2==0)) (
  ret ((Tm.mk 0 0 ByteArray.empty [] [] []),r4.2)) (
  aa k (BH k i) fun r5=>
  dR k (ac r4.1) 0 r5 fun r6=>
  ret ((ac r6.1),r6.2))))
noncomputable def og {S:Type} (k:Nat) (t:Tm) (i:Int) (a_r:List Cl) (ret:Tm×Int→Option S):Option S:=Pt k ret t i a_r
def Fy {S:Type} (k:Nat) (ret:Tm×Int→Option S) (line:Tm) (a_r:List Cl) (c0:Int):Option S:=
 aa k (cr k c0) fun r1=>
 ab (!r1) (
 ret ((Tm.mk 0 0 ByteArray.empty [] [] []),c0)) (
 aa k (xh k (ac line) 1 2) fun r2=>
 aa k (gc k r2.2 c0) fun r3=>
 aa k (cr k r3) fun r4=>
 ab (!r4) (
  ret ((Tm.mk 0 0 ByteArray.empty [] [] []),r3)) (
  aa k (og k (ac r2.1) 0 a_r) fun r5=>
  aa k (gc k r5.2 r3) fun r6=>
  ret ((ac r5.1),r6)))
noncomputable def gR {S:Type} (k:Nat) (line:Tm) (a_r:List Cl) (c0:Int) (ret:Tm×Int→Option S):Option S:=Fy k ret line a_r c0
noncomputable def P4 {S:Type} (k:Nat) (ret:Pan Int Tm→Option S) (c0 c1:Int) (c2:Tm):Option S:=
 dE k c1 0 (ac c2) 0 0 fun r2=>Pan.elim r2 (fun r2=>
 dE k 0 c0 (ac r2) 0 0 fun r5=>Pan.elim r5 (fun r5=>
  ret (.ok (ac r5))) (fun e6=>
  ret (.pan e6))) (fun e3=>
 ret (.pan e3))
noncomputable def xg {S:Type} (k:Nat) (c0 c1:Int) (c2:Tm) (ret:Pan Int Tm→Option S):Option S:=P4 k ret c0 c1 c2
def vD {S:Type} (k:Nat) (ret:Tm×Int→Option S) (c0 c1:Int) (c2:Tm) (numbers:List Int) (rec0:Int→Option S) (v19:Int):Option S:=
 ab (decide ((v19:Int)<(numbers.length:Int))) (
 Option.bind (al numbers v19) fun x2=>
 ab (decide ((x2:Int)<0)) (
  ret ((Tm.mk 0 0 ByteArray.empty [] [] []),2)) (
   rec0 (IntKind.wrap .i64 (v19+1)))) (
 aa k (xg k c0 c1 (ac c2)) fun r4=>Pan.elim r4 (fun r4=>
  ret ((ac r4),0)) (fun e5=>
  ret ((Tm.mk 0 0 ByteArray.empty [] [] []),e5)))
noncomputable def m0 {S:Type} (k:Nat) (ret:Tm×Int→Option S) (c0 c1:Int) (c2:Tm) (numbers:List Int):Nat→Int→Option S
 |0=>fun _=> .none
 |m+1=>fun v19=>vD k ret c0 c1 c2 numbers (m0 k ret c0 c1 c2 numbers m) v19
def F6 {S:Type} (k:Nat) (ret:Tm×Int→Option S) (J0:Int→Option S) (t:Tm) (numbers:List Int) (c0 c1:Int) (c2:Tm):Option S:=
 aa k (kV k (ac t)) fun r1=>
 ab (!(r1==0)) (
 ret ((Tm.mk 0 0 ByteArray.empty [] [] []),r1)) (
  J0 0)
noncomputable def BY {S:Type} (k:Nat) (t:Tm) (numbers:List Int) (c0 c1:Int) (c2:Tm) (ret:Tm×Int→Option S):Option S:=F6 k ret (fun v19=>m0 k ret c0 c1 c2 numbers k v19) t numbers c0 c1 c2
noncomputable def P3 {S:Type} (k:Nat) (ret:Tm×Int→Option S) (t:Tm) (vars dims:Int):Option S:=
 aa k (BY k (ac t) [vars,dims,IntKind.wrap .i64 (1000000-vars)] dims vars (ac t)) fun r1=>
 ret ((ac r1.1),r1.2)
noncomputable def xe {S:Type} (k:Nat) (t:Tm) (vars dims:Int) (ret:Tm×Int→Option S):Option S:=P3 k ret t vars dims
def FC {S:Type} (k:Nat) (ret:Tm×Int→Option S) (t:Tm) (vars dims c0:Int):Option S:=
 aa k (cr k c0) fun r1=>
 ab (!r1) (
 ret ((Tm.mk 0 0 ByteArray.empty [] [] []),c0)) (
 aa k (xe k (ac t) vars dims) fun r2=>
 aa k (gc k r2.2 c0) fun r3=>
 ret ((ac r2.1),r3))
noncomputable def co {S:Type} (k:Nat) (t:Tm) (vars dims c0:Int) (ret:Tm×Int→Option S):Option S:=FC k ret t vars dims c0
noncomputable def fz {S:Type} (k:Nat) (ret:Int×Int×ByteArray×List Tm→Option S) (kind:Int) (kids:List Tm):Option S:=
 ret (kind,0,ByteArray.empty,kids)
noncomputable def bt {S:Type} (k:Nat) (kind:Int) (kids:List Tm) (ret:Int×Int×ByteArray×List Tm→Option S):Option S:=fz k ret kind kids
def Fz {S:Type} (k:Nat) (ret:Tm×Int×Int→Option S) (t:Tm) (c0:Int):Option S:=
 aa k (cr k c0) fun r1=>
 ab (r1) (
 aa k (kV k (ac t)) fun r2=>
 aa k (gc k r2 c0) fun r3=>
 aa k (cr k r3) fun r4=>
 ab (!r4) (
  ret ((Tm.mk 0 0 ByteArray.empty [] [] []),r3,r3)) (
  ret ((ac t),0,r3))) (
 aa k (cr k c0) fun r5=>
 ab (!r5) (
  ret ((Tm.mk 0 0 ByteArray.empty [] [] []),c0,c0)) (
  ret ((ac t),0,c0)))
noncomputable def cO {S:Type} (k:Nat) (t:Tm) (c0:Int) (ret:Tm×Int×Int→Option S):Option S:=Fz k ret t c0
def Pg {S:Type} (k:Nat) (ret:Tm×Int→Option S) (line:Tm) (phi:List Cl) (a:Tm) (a_end:Cl) (a_r:List Cl):Option S:=
 aa k (gQ k [(ac line),(ac a)]) fun r1=>
 aa k (kN k phi) fun r2=>
 ab (!r2) (
 aa k (gc k 2 r1) fun r3=>
 aa k (iO k phi r3) fun r4=>
 aa k (kM k r4.1 [a_end] r4.2) fun r5=>
 aa k (gR k (ac line) a_r r5.2) fun r6=>
 aa k (co k (ac a) 0 1 r6.2) fun r7=>
 aa k (bt k 14 [(ac r6.1),(ac r7.1)]) fun r8=>
 aa k (cO k (Tm.mk r8.1 r8.2.1 r8.2.2.1 r5.1 r8.2.2.2 []) r7.2) fun r9=>
 ret ((ac r9.1),r9.2.1)) (
 aa k (iO k phi r1) fun r10=>
 aa k (kM k r10.1 [a_end] r10.2) fun r11=>
 aa k (gR k (ac line) a_r r11.2) fun r12=>
 aa k (co k (ac a) 0 1 r12.2) fun r13=>
 aa k (bt k 14 [(ac r12.1),(ac r13.1)]) fun r14=>
 aa k (cO k (Tm.mk r14.1 r14.2.1 r14.2.2.1 r11.1 r14.2.2.2 []) r13.2) fun r15=>
 ret ((ac r15.1),r15.2.1))
noncomputable def sg {S:Type} (k:Nat) (line:Tm) (phi:List Cl) (a:Tm) (a_end:Cl) (a_r:List Cl) (ret:Tm×Int→Option S):Option S:=Pg k ret line phi a a_end a_r
noncomputable def Pf {S:Type} (k:Nat) (ret:Tm×Int→Option S) (line:Tm) (phi:List Cl) (a:Tm):Option S:=
 aa k (sg k (ac line) phi (ac a) (Cl.mk 0 1) [(Cl.mk 3 0)]) fun r1=>
 ret ((ac r1.1),r1.2)
noncomputable def sf {S:Type} (k:Nat) (line:Tm) (phi:List Cl) (a:Tm) (ret:Tm×Int→Option S):Option S:=Pf k ret line phi a
noncomputable def Pl {S:Type} (k:Nat) (ret:Int×Int×ByteArray×List Tm×List (Br Tm)→Option S) (sys:List (Br Tm)):Option S:=
 aa k (bt k 3 ([]:List Tm)) fun r1=>
 aa k (bt k 3 ([]:List Tm)) fun r2=>
 ret (15,0,ByteArray.empty,[(Tm.mk r1.1 r1.2.1 r1.2.2.1 [] r1.2.2.2 []),(Tm.mk r2.1 r2.2.1 r2.2.2.1 [] r2.2.2.2 [])],sys)
noncomputable def oa {S:Type} (k:Nat) (sys:List (Br Tm)) (ret:Int×Int×ByteArray×List Tm×List (Br Tm)→Option S):Option S:=Pl k ret sys
def nU {S:Type} (k:Nat) (ret:Tm×Int→Option S) (a:Tm) (r5:Int×Int×ByteArray×List Tm) (sys:List (Br Tm)) (rec0:Int→(List (Br Tm))→Int→Option S) (b19000_0:Int) (b9_5:List (Br Tm)) (v29:Int):Option S:=
 ab (decide ((v29:Int)<(sys.length:Int))) (
 Option.bind (al sys v29) fun x6=>
 aa k (cr k b19000_0) fun r7=>
 ab (!r7) (
  aa k (co k (ac a) 0 2 b19000_0) fun r8=>
  Option.bind (ay 1099511627776 b9_5.length [(Br.mk [(Cl.mk 0 1)] [(ac r8.1)])].length) fun x9=>
  aa k (cO k (Tm.mk r5.1 r5.2.1 r5.2.2.1 [] r5.2.2.2 (b9_5++[(Br.mk [(Cl.mk 0 1)] [(ac r8.1)])])) r8.2) fun r10=>
  ret ((ac r10.1),r10.2.1)) (
  aa k (iO k x6.face b19000_0) fun r11=>
  Option.bind (al x6.kids 0) fun x12=>
  aa k (gR k (ac x12) [(Cl.mk 3 0)] r11.2) fun r13=>
  Option.bind (ay 1099511627776 b9_5.length [(Br.mk r11.1 [(ac r13.1)])].length) fun x14=>
   rec0 r13.2 (b9_5++[(Br.mk r11.1 [(ac r13.1)])]) (IntKind.wrap .i64 (v29+1)))) (
 aa k (co k (ac a) 0 2 b19000_0) fun r15=>
 Option.bind (ay 1099511627776 b9_5.length [(Br.mk [(Cl.mk 0 1)] [(ac r15.1)])].length) fun x16=>
 aa k (cO k (Tm.mk r5.1 r5.2.1 r5.2.2.1 [] r5.2.2.2 (b9_5++[(Br.mk [(Cl.mk 0 1)] [(ac r15.1)])])) r15.2) fun r17=>
 ret ((ac r17.1),r17.2.1))
noncomputable def gu {S:Type} (k:Nat) (ret:Tm×Int→Option S) (a:Tm) (r5:Int×Int×ByteArray×List Tm) (sys:List (Br Tm)):Nat→Int→(List (Br Tm))→Int→Option S
 |0=>fun _ _ _=> .none
 |m+1=>fun b19000_0 b9_5 v29=>nU k ret a r5 sys (gu k ret a r5 sys m) b19000_0 b9_5 v29
noncomputable def Fv {S:Type} (k:Nat) (ret:Tm×Int→Option S) (J0:(Int×Int×ByteArray×List Tm)→Int→(List (Br Tm))→Int→Option S) (t a:Tm) (sys:List (Br Tm)):Option S:=
 aa k (oa k sys) fun r1=>
 aa k (gQ k [(ac t),(ac a),(Tm.mk r1.1 r1.2.1 r1.2.2.1 [] r1.2.2.2.1 r1.2.2.2.2)]) fun r2=>
 aa k (co k (ac t) 0 1 r2) fun r3=>
 aa k (co k (ac a) 0 1 r3.2) fun r4=>
 aa k (bt k 15 [(ac r3.1),(ac r4.1)]) fun r5=>
 J0 r5 r4.2 ([]:List (Br Tm)) 0
noncomputable def sb {S:Type} (k:Nat) (t a:Tm) (sys:List (Br Tm)) (ret:Tm×Int→Option S):Option S:=Fv k ret (fun r5 b19000_0 b9_5 v29=>gu k ret a r5 sys k b19000_0 b9_5 v29) t a sys
def nV {S:Type} (k:Nat) (ret:Bool→Option S) (a b:List Cl) (rec0:Int→Option S) (i5:Int):Option S:=
 ab (decide ((i5:Int)<(a.length:Int))) (
 Option.bind (al a i5) fun x1=>
 Option.bind (al b i5) fun x2=>
 ab (!((x1.pos==x2.pos)&&((x1.neg==x2.neg)&&true))) (
  ret false) (
   rec0 (IntKind.wrap .i64 (i5+1)))) (
 ret true)
noncomputable def j9 {S:Type} (k:Nat) (ret:Bool→Option S) (a b:List Cl):Nat→Int→Option S
 |0=>fun _=> .none
 |m+1=>fun i5=>nV k ret a b (j9 k ret a b m) i5
def zX {S:Type} (k:Nat) (ret:Bool→Option S) (J0:Int→Option S) (a b:List Cl):Option S:=
 ab (!((a.length:Int)==(b.length:Int))) (
 ret false) (
  J0 0)
noncomputable def iW {S:Type} (k:Nat) (a b:List Cl) (ret:Bool→Option S):Option S:=zX k ret (fun i5=>j9 k ret a b k i5) a b
noncomputable def zV {S:Type} (k:Nat) (ret:Int×Int×ByteArray→Option S) (a_n:Int):Option S:=
 ret (1,a_n,ByteArray.empty)
noncomputable def eR {S:Type} (k:Nat) (a_n:Int) (ret:Int×Int×ByteArray→Option S):Option S:=zV k ret a_n
noncomputable def af3 {S:Type} (k:Nat) (ret:Int×Int×ByteArray×List Cl×List Tm→Option S) (a_r:List Cl):Option S:=
 aa k (eR k 0) fun r1=>
 aa k (bt k 10 [(Tm.mk r1.1 r1.2.1 r1.2.2 [] [] [])]) fun r2=>
 aa k (eR k 1) fun r3=>
 aa k (eR k 0) fun r4=>
 aa k (bt k 9 [(Tm.mk r4.1 r4.2.1 r4.2.2 [] [] [])]) fun r5=>
 ret (13,0,ByteArray.empty,a_r,[(Tm.mk r2.1 r2.2.1 r2.2.2.1 [] r2.2.2.2 []),(Tm.mk r3.1 r3.2.1 r3.2.2 [] [] []),(Tm.mk r5.1 r5.2.1 r5.2.2.1 [] r5.2.2.2 [])])
noncomputable def BG {S:Type} (k:Nat) (a_r:List Cl) (ret:Int×Int×ByteArray×List Cl×List Tm→Option S):Option S:=af3 k ret a_r
noncomputable def af2 {S:Type} (k:Nat) (ret:Int×Int×ByteArray×List Tm→Option S):Option S:=
 aa k (eR k 0) fun r1=>
 aa k (eR k 0) fun r2=>
 aa k (bt k 12 [(Tm.mk r2.1 r2.2.1 r2.2.2 [] [] [])]) fun r3=>
 aa k (bt k 8 [(Tm.mk r1.1 r1.2.1 r1.2.2 [] [] []),(Tm.mk r3.1 r3.2.1 r3.2.2.1 [] r3.2.2.2 [])]) fun r4=>
 aa k (BG k [(Cl.mk 1 0)]) fun r5=>
 aa k (BG k [(Cl.mk 3 0)]) fun r6=>
 aa k (bt k 12 [(Tm.mk r6.1 r6.2.1 r6.2.2.1 r6.2.2.2.1 r6.2.2.2.2 [])]) fun r7=>
 aa k (bt k 8 [(Tm.mk r5.1 r5.2.1 r5.2.2.1 r5.2.2.2.1 r5.2.2.2.2 []),(Tm.mk r7.1 r7.2.1 r7.2.2.1 [] r7.2.2.2 [])]) fun r8=>
 aa k (bt k 12 [(Tm.mk r8.1 r8.2.1 r8.2.2.1 [] r8.2.2.2 [])]) fun r9=>
 aa k (bt k 5 [(Tm.mk r9.1 r9.2.1 r9.2.2.1 [] r9.2.2.2 [])]) fun r10=>
 aa k (eR k 0) fun r11=>
 aa k (bt k 5 [(Tm.mk r11.1 r11.2.1 r11.2.2 [] [] [])]) fun r12=>
 aa k (bt k 8 [(Tm.mk r4.1 r4.2.1 r4.2.2.1 [] r4.2.2.2 []),(Tm.mk r10.1 r10.2.1 r10.2.2.1 [] r10.2.2.2 [])]) fun r13=>
 aa k (bt k 5 [(Tm.mk r13.1 r13.2.1 r13.2.2.1 [] r13.2.2.2 [])]) fun r14=>
 aa k (bt k 8 [(Tm.mk r12.1 r12.2.1 r12.2.2.1 [] r12.2.2.2 []),(Tm.mk r14.1 r14.2.1 r14.2.2.1 [] r14.2.2.2 [])]) fun r15=>
 ret (r15.1,r15.2.1,r15.2.2.1,r15.2.2.2)
noncomputable def sc {S:Type} (k:Nat) (ret:Int×Int×ByteArray×List Tm→Option S):Option S:=af2 k ret
def af9 {S:Type} (k:Nat) (ret:Int→Option S) (t:Tm) (vars dims:Int):Option S:=
 ab (decide ((vars:Int)<0)) (
 ret 2) (
 ab (decide ((dims:Int)<0)) (
  ret 2) (
  ab (decide ((dims:Int)>24)) (
  ret 2) (
  aa k (sZ k (ac t)) fun r1=>
  ab (!(r1==0)) (
   ret r1) (
   fI k (ac t) vars dims true fun r2=>
   ab (!r2) (
   ret 100) (
   ret 0)))))
noncomputable def HF {S:Type} (k:Nat) (t:Tm) (vars dims:Int) (ret:Int→Option S):Option S:=af9 k ret t vars dims
def af4 {S:Type} (k:Nat) (ret:Bool→Option S):Option S:=
 aa k (sf k (Tm.mk 3 0 ByteArray.empty [] [] []) ([]:List Cl) (Tm.mk 20 0 ByteArray.empty [] [] [])) fun r1=>
 aa k (sb k (Tm.mk 19 0 ByteArray.empty [] [] []) (Tm.mk 20 0 ByteArray.empty [] [] []) ([]:List (Br Tm))) fun r2=>
 ab (r1.2==0) (
 ab (r1.1.kind==14) (
  aa k (iW k r1.1.r [(Cl.mk 0 1)]) fun r3=>
  ab (r3) (
  ab ((r1.1.kids.length:Int)==2) (
   Option.bind (al r1.1.kids 0) fun x4=>
   ab (x4.kind==3) (
   ab (r2.2==0) (
    ab (r2.1.kind==15) (
    ab ((r2.1.sys.length:Int)==1) (
     Option.bind (al r2.1.sys 0) fun x5=>
     aa k (iW k x5.face [(Cl.mk 0 1)]) fun r6=>
     ab (r6) (
     aa k (sc k) fun r7=>
     aa k (HF k (Tm.mk r7.1 r7.2.1 r7.2.2.1 [] r7.2.2.2 []) 0 0) fun r8=>
     ret (r8==0)) (
     ret false)) (
     ret false)) (
    ret false)) (
    ret false)) (
   ret false)) (
   ret false)) (
  ret false)) (
  ret false)) (
 ret false)
noncomputable def fF {S:Type} (k:Nat) (ret:Bool→Option S):Option S:=af4 k ret
abbrev gL (S:Type):=Tm→(Int→Option S)→Option S
def wd {S:Type} (hd:gL S) (k:Nat) (ret:Int→Option S) (t:Tm) (i6:Int) (rec1:Int→Int→Option S) (rec2:Int→Int→Option S) (most3'' v7:Int):Option S:=
 Option.bind (al t.sys i6) fun x3=>
 ab (decide ((v7:Int)<(x3.kids.length:Int))) (
 Option.bind (al t.sys i6) fun x4=>
 Option.bind (al x4.kids v7) fun x5=>
 hd (ac x5) fun r6=>
 ab (decide ((r6:Int)>most3'')) (
   rec2 r6 (IntKind.wrap .i64 (v7+1))) (
   rec2 most3'' (IntKind.wrap .i64 (v7+1)))) (
  rec1 most3'' (IntKind.wrap .i64 (i6+1)))
noncomputable def j_ {S:Type} (hd:gL S) (k:Nat) (ret:Int→Option S) (rec1:Int→Int→Option S) (t:Tm) (i6:Int):Nat→Int→Int→Option S
 |0=>fun _ _=> .none
 |m+1=>fun most3'' v7=>wd hd k ret t i6 rec1 (j_ hd k ret rec1 t i6 m) most3'' v7
def rG {S:Type} (hd:gL S) (k:Nat) (ret:Int→Option S) (t:Tm) (J2:Int→Int→Int→Option S) (rec1:Int→Int→Option S) (most3' i6:Int):Option S:=
 ab (decide ((i6:Int)<(t.sys.length:Int))) (
  J2 i6 most3' 0) (
 ret (IntKind.wrap .i64 (most3'+1)))
noncomputable def g9 {S:Type} (hd:gL S) (k:Nat) (ret:Int→Option S) (t:Tm):Nat→Int→Int→Option S
 |0=>fun _ _=> .none
 |m+1=>fun most3' i6=>rG hd k ret t (fun i6 most3'' v7=>j_ hd k ret (g9 hd k ret t m) t i6 k most3'' v7) (g9 hd k ret t m) most3' i6
def rF {S:Type} (hd:gL S) (k:Nat) (ret:Int→Option S) (t:Tm) (J1:Int→Int→Option S) (rec0:Int→Int→Option S) (most3 i4:Int):Option S:=
 ab (decide ((i4:Int)<(t.kids.length:Int))) (
 Option.bind (al t.kids i4) fun x1=>
 hd (ac x1) fun r2=>
 ab (decide ((r2:Int)>most3)) (
   rec0 r2 (IntKind.wrap .i64 (i4+1))) (
   rec0 most3 (IntKind.wrap .i64 (i4+1)))) (
  J1 most3 0)
noncomputable def nd {S:Type} (hd:gL S) (k:Nat) (ret:Int→Option S) (t:Tm):Nat→Int→Int→Option S
 |0=>fun _ _=> .none
 |m+1=>fun most3 i4=>rF hd k ret t (fun most3' i6=>g9 hd k ret t k most3' i6) (nd hd k ret t m) most3 i4
noncomputable def Gx {S:Type} (hd:gL S) (k:Nat) (ret:Int→Option S) (J0:Int→Int→Option S) (t:Tm):Option S:=
 J0 0 0
noncomputable def iX {S:Type}:Nat→Tm→(Int→Option S)→Option S
 |0=>fun _ _=> .none
 |k+1=>fun t ret=>Gx (iX k) k ret (fun most3 i4=>nd (iX k) k ret t k most3 i4) t
abbrev gM (S:Type):=Tm→(Int→Option S)→Option S
def wg {S:Type} (hd:gM S) (k:Nat) (ret:Int→Option S) (t:Tm) (i5:Int) (rec1:Int→Int→Option S) (rec2:Int→Int→Option S) (v3'' v6:Int):Option S:=
 Option.bind (al t.sys i5) fun x3=>
 ab (decide ((v6:Int)<(x3.kids.length:Int))) (
 Option.bind (al t.sys i5) fun x4=>
 Option.bind (al x4.kids v6) fun x5=>
 hd (ac x5) fun r6=>
  rec2 (IntKind.wrap .i64 (v3''+r6)) (IntKind.wrap .i64 (v6+1))) (
  rec1 v3'' (IntKind.wrap .i64 (i5+1)))
noncomputable def lM {S:Type} (hd:gM S) (k:Nat) (ret:Int→Option S) (rec1:Int→Int→Option S) (t:Tm) (i5:Int):Nat→Int→Int→Option S
 |0=>fun _ _=> .none
 |m+1=>fun v3'' v6=>wg hd k ret t i5 rec1 (lM hd k ret rec1 t i5 m) v3'' v6
def rI {S:Type} (hd:gM S) (k:Nat) (ret:Int→Option S) (t:Tm) (J2:Int→Int→Int→Option S) (rec1:Int→Int→Option S) (v3' i5:Int):Option S:=
 ab (decide ((i5:Int)<(t.sys.length:Int))) (
  J2 i5 v3' 0) (
 ret v3')
noncomputable def g_ {S:Type} (hd:gM S) (k:Nat) (ret:Int→Option S) (t:Tm):Nat→Int→Int→Option S
 |0=>fun _ _=> .none
 |m+1=>fun v3' i5=>rI hd k ret t (fun i5 v3'' v6=>lM hd k ret (g_ hd k ret t m) t i5 k v3'' v6) (g_ hd k ret t m) v3' i5
def rH {S:Type} (hd:gM S) (k:Nat) (ret:Int→Option S) (t:Tm) (J1:Int→Int→Option S) (rec0:Int→Int→Option S) (v3 i4:Int):Option S:=
 ab (decide ((i4:Int)<(t.kids.length:Int))) (
 Option.bind (al t.kids i4) fun x1=>
 hd (ac x1) fun r2=>
  rec0 (IntKind.wrap .i64 (v3+r2)) (IntKind.wrap .i64 (i4+1))) (
  J1 v3 0)
noncomputable def pD {S:Type} (hd:gM S) (k:Nat) (ret:Int→Option S) (t:Tm):Nat→Int→Int→Option S
 |0=>fun _ _=> .none
 |m+1=>fun v3 i4=>rH hd k ret t (fun v3' i5=>g_ hd k ret t k v3' i5) (pD hd k ret t m) v3 i4
noncomputable def Gz {S:Type} (hd:gM S) (k:Nat) (ret:Int→Option S) (J0:Int→Int→Option S) (t:Tm):Option S:=
 J0 1 0
noncomputable def iY {S:Type}:Nat→Tm→(Int→Option S)→Option S
 |0=>fun _ _=> .none
 |k+1=>fun t ret=>Gz (iY k) k ret (fun v3 i4=>pD (iY k) k ret t k v3 i4) t
def Qw {S:Type} (k:Nat) (ret:Int→Option S) (t:Tm):Option S:=
 iX k (ac t) fun r1=>
 ab (decide ((r1:Int)>200)) (
 ret 62) (
 iY k (ac t) fun r2=>
 ab (decide ((r2:Int)>20000)) (
  ret 221) (
  ret 0))
noncomputable def xy {S:Type} (k:Nat) (t:Tm) (ret:Int→Option S):Option S:=Qw k ret t
def Qs {S:Type} (k:Nat) (ret:Int→Option S) (kind:Int):Option S:=
 ab (decide ((kind:Int)<0)) (
 ret (-1)) (
 ab (decide ((kind:Int)>28)) (
  ret (-1)) (
  Option.bind (bS (0≤kind∧kind<(29:Int))) fun x1=>
  Option.bind (al [(-1),0,0,0,2,1,2,2,2,1,1,3,1,3,2,2,1,1,1,0,0,0,4,1,0,0,1,5,2] kind) fun x2=>
  ret x2))
noncomputable def oB {S:Type} (k:Nat) (kind:Int) (ret:Int→Option S):Option S:=Qs k ret kind
def Qu {S:Type} (k:Nat) (ret:Int→Option S) (kind:Int):Option S:=
 ab (kind==16) (
 ret 2) (
 ab (kind==15) (
  ret 1) (
  ab (kind==17) (
  ret 1) (
  ab (kind==18) (
   ret 1) (
   ret 0))))
noncomputable def oD {S:Type} (k:Nat) (kind:Int) (ret:Int→Option S):Option S:=Qu k ret kind
def Bk {S:Type} (k:Nat) (ret:Bool→Option S) (s:ByteArray) (i3:Int) (x1:UInt8) (rec0:Int→Option S):Option S:=
 ab (!((x1.toNat:Int)==95)) (
 ab (decide (((x1.toNat:Int):Int)<97)) (
  ab (decide (((x1.toNat:Int):Int)<65)) (
  ret false) (
  ab (decide (((x1.toNat:Int):Int)>90)) (
   ret false) (
     rec0 (IntKind.wrap .i64 (i3+1))))) (
  ab (decide (((x1.toNat:Int):Int)>122)) (
  ab (decide (((x1.toNat:Int):Int)<65)) (
   ret false) (
   ab (decide (((x1.toNat:Int):Int)>90)) (
   ret false) (
      rec0 (IntKind.wrap .i64 (i3+1))))) (
    rec0 (IntKind.wrap .i64 (i3+1))))) (
  rec0 (IntKind.wrap .i64 (i3+1)))
noncomputable def yA {S:Type} (k:Nat) (ret:Bool→Option S) (rec0:Int→Option S) (s:ByteArray) (i3:Int) (x1:UInt8):Nat→Option S
 |0=> .none
 |_+1=>Bk k ret s i3 x1 rec0
def rJ {S:Type} (k:Nat) (ret:Bool→Option S) (s:ByteArray) (J1:Int→UInt8→Option S) (rec0:Int→Option S) (i3:Int):Option S:=
 ab (decide ((i3:Int)<(s.size:Int))) (
 Option.bind (al s.data.toList i3) fun x1=>
 ab (decide (((x1.toNat:Int):Int)≥48)) (
  ab (decide (((x1.toNat:Int):Int)≤57)) (
  ab (decide ((i3:Int)>0)) (
     rec0 (IntKind.wrap .i64 (i3+1))) (
     J1 i3 x1)) (
    J1 i3 x1)) (
   J1 i3 x1)) (
 ret (decide (((s.size:Int):Int)>0)))
noncomputable def ng {S:Type} (k:Nat) (ret:Bool→Option S) (s:ByteArray):Nat→Int→Option S
 |0=>fun _=> .none
 |m+1=>fun i3=>rJ k ret s (fun i3 x1=>yA k ret (ng k ret s m) s i3 x1 k) (ng k ret s m) i3
noncomputable def GB {S:Type} (k:Nat) (ret:Bool→Option S) (J0:Int→Option S) (s:ByteArray):Option S:=
 J0 0
noncomputable def xx {S:Type} (k:Nat) (s:ByteArray) (ret:Bool→Option S):Option S:=GB k ret (fun i3=>ng k ret s k i3) s
def vK {S:Type} (k:Nat) (ret:Int→Option S) (a_n:Int) (rec0:Int→Int→Option S) (p3 i4:Int):Option S:=
 ab (decide ((i4:Int)<a_n)) (
  rec0 (IntKind.wrap .i64 (p3*2)) (IntKind.wrap .i64 (i4+1))) (
 ret p3)
noncomputable def pj {S:Type} (k:Nat) (ret:Int→Option S) (a_n:Int):Nat→Int→Int→Option S
 |0=>fun _ _=> .none
 |m+1=>fun p3 i4=>vK k ret a_n (pj k ret a_n m) p3 i4
noncomputable def Gc {S:Type} (k:Nat) (ret:Int→Option S) (J0:Int→Int→Option S) (a_n:Int):Option S:=
 J0 1 0
noncomputable def ox {S:Type} (k:Nat) (a_n:Int) (ret:Int→Option S):Option S:=Gc k ret (fun p3 i4=>pj k ret a_n k p3 i4) a_n
noncomputable def Qf {S:Type} (k:Nat) (ret:Bool→Option S) (s:Int):Option S:=
 aa k (ox k 24) fun r1=>
 ret (decide ((IntKind.wrap .i64 s:Int)<r1))
noncomputable def ow {S:Type} (k:Nat) (s:Int) (ret:Bool→Option S):Option S:=Qf k ret s
def Ql {S:Type} (k:Nat) (ret:Bool→Option S) (c:Cl):Option S:=
 aa k (ow k c.pos) fun r1=>
 ab (r1) (
 aa k (ow k c.neg) fun r2=>
 ret r2) (
 ret false)
noncomputable def sG {S:Type} (k:Nat) (c:Cl) (ret:Bool→Option S):Option S:=Ql k ret c
def Qh {S:Type} (k:Nat) (ret:Bool→Option S) (a b:Cl):Option S:=
 ab ((be .or .u32 a.pos b.pos)==a.pos) (
 ret ((be .or .u32 a.neg b.neg)==a.neg)) (
 ret false)
noncomputable def xk {S:Type} (k:Nat) (a b:Cl) (ret:Bool→Option S):Option S:=Qh k ret a b
def vO {S:Type} (k:Nat) (ret:Bool→Option S) (c:Cl) (l:List Cl) (rec0:Int→Option S) (i5:Int):Option S:=
 ab (decide ((i5:Int)<(l.length:Int))) (
 Option.bind (al l i5) fun x1=>
 ab (!((x1.pos==c.pos)&&((x1.neg==c.neg)&&true))) (
  Option.bind (al l i5) fun x2=>
  aa k (xk k c x2) fun r3=>
  ab (r3) (
  ret false) (
    rec0 (IntKind.wrap .i64 (i5+1)))) (
   rec0 (IntKind.wrap .i64 (i5+1)))) (
 ret true)
noncomputable def pn {S:Type} (k:Nat) (ret:Bool→Option S) (c:Cl) (l:List Cl):Nat→Int→Option S
 |0=>fun _=> .none
 |m+1=>fun i5=>vO k ret c l (pn k ret c l m) i5
noncomputable def Gg {S:Type} (k:Nat) (ret:Bool→Option S) (J0:Int→Option S) (l:List Cl) (c:Cl):Option S:=
 J0 0
noncomputable def xp {S:Type} (k:Nat) (l:List Cl) (c:Cl) (ret:Bool→Option S):Option S:=Gg k ret (fun i5=>pn k ret c l k i5) l c
def Qi {S:Type} (k:Nat) (ret:Bool→Option S) (a b:Cl):Option S:=
 ab (decide ((a.pos:Int)<b.pos)) (
 ret true) (
 ab (a.pos==b.pos) (
  ret (decide ((a.neg:Int)<b.neg))) (
  ret false))
noncomputable def xl {S:Type} (k:Nat) (a b:Cl) (ret:Bool→Option S):Option S:=Qi k ret a b
def vM {S:Type} (k:Nat) (ret:List Cl×Int→Option S) (l out5:List Cl) (i6:Int) (rec1:(List Cl)→Int→Option S) (rec2:Int→Option S) (v7:Int):Option S:=
 ab (decide ((v7:Int)<(out5.length:Int))) (
 Option.bind (al out5 v7) fun x5=>
 Option.bind (al out5 v7) fun x6=>
 Option.bind (al l i6) fun x7=>
 aa k (xl k x6 x7) fun r8=>
 ab (r8) (
   rec2 (IntKind.wrap .i64 (v7+1))) (
  ab (v7==(out5.length:Int)) (
  Option.bind (bS (0≤v7∧v7≤(out5.length:Int))) fun x9=>
  Option.bind (ay 1099511627776 ([]:List Cl).length (List.take (Int.toNat v7) out5).length) fun x10=>
  Option.bind (al l i6) fun x11=>
  Option.bind (ay 1099511627776 (([]:List Cl)++(List.take (Int.toNat v7) out5)).length [x11].length) fun x12=>
  Option.bind (bS (0≤v7∧v7≤(out5.length:Int))) fun x13=>
  Option.bind (ay 1099511627776 ((([]:List Cl)++(List.take (Int.toNat v7) out5))++[x11]).length (List.drop (Int.toNat v7) out5).length) fun x14=>
    rec1 (((([]:List Cl)++(List.take (Int.toNat v7) out5))++[x11])++(List.drop (Int.toNat v7) out5)) (IntKind.wrap .i64 (i6+1))) (
  Option.bind (al out5 v7) fun x15=>
  Option.bind (al out5 v7) fun x16=>
  Option.bind (al l i6) fun x17=>
  ab (!((x16.pos==x17.pos)&&((x16.neg==x17.neg)&&true))) (
   Option.bind (bS (0≤v7∧v7≤(out5.length:Int))) fun x18=>
   Option.bind (ay 1099511627776 ([]:List Cl).length (List.take (Int.toNat v7) out5).length) fun x19=>
   Option.bind (al l i6) fun x20=>
   Option.bind (ay 1099511627776 (([]:List Cl)++(List.take (Int.toNat v7) out5)).length [x20].length) fun x21=>
   Option.bind (bS (0≤v7∧v7≤(out5.length:Int))) fun x22=>
   Option.bind (ay 1099511627776 ((([]:List Cl)++(List.take (Int.toNat v7) out5))++[x20]).length (List.drop (Int.toNat v7) out5).length) fun x23=>
     rec1 (((([]:List Cl)++(List.take (Int.toNat v7) out5))++[x20])++(List.drop (Int.toNat v7) out5)) (IntKind.wrap .i64 (i6+1))) (
     rec1 out5 (IntKind.wrap .i64 (i6+1)))))) (
 ab (v7==(out5.length:Int)) (
  Option.bind (bS (0≤v7∧v7≤(out5.length:Int))) fun x24=>
  Option.bind (ay 1099511627776 ([]:List Cl).length (List.take (Int.toNat v7) out5).length) fun x25=>
  Option.bind (al l i6) fun x26=>
  Option.bind (ay 1099511627776 (([]:List Cl)++(List.take (Int.toNat v7) out5)).length [x26].length) fun x27=>
  Option.bind (bS (0≤v7∧v7≤(out5.length:Int))) fun x28=>
  Option.bind (ay 1099511627776 ((([]:List Cl)++(List.take (Int.toNat v7) out5))++[x26]).length (List.drop (Int.toNat v7) out5).length) fun x29=>
   rec1 (((([]:List Cl)++(List.take (Int.toNat v7) out5))++[x26])++(List.drop (Int.toNat v7) out5)) (IntKind.wrap .i64 (i6+1))) (
  Option.bind (al out5 v7) fun x30=>
  Option.bind (al out5 v7) fun x31=>
  Option.bind (al l i6) fun x32=>
  ab (!((x31.pos==x32.pos)&&((x31.neg==x32.neg)&&true))) (
  Option.bind (bS (0≤v7∧v7≤(out5.length:Int))) fun x33=>
  Option.bind (ay 1099511627776 ([]:List Cl).length (List.take (Int.toNat v7) out5).length) fun x34=>
  Option.bind (al l i6) fun x35=>
  Option.bind (ay 1099511627776 (([]:List Cl)++(List.take (Int.toNat v7) out5)).length [x35].length) fun x36=>
  Option.bind (bS (0≤v7∧v7≤(out5.length:Int))) fun x37=>
  Option.bind (ay 1099511627776 ((([]:List Cl)++(List.take (Int.toNat v7) out5))++[x35]).length (List.drop (Int.toNat v7) out5).length) fun x38=>
    rec1 (((([]:List Cl)++(List.take (Int.toNat v7) out5))++[x35])++(List.drop (Int.toNat v7) out5)) (IntKind.wrap .i64 (i6+1))) (
    rec1 out5 (IntKind.wrap .i64 (i6+1)))))
noncomputable def m8 {S:Type} (k:Nat) (ret:List Cl×Int→Option S) (rec1:(List Cl)→Int→Option S) (l out5:List Cl) (i6:Int):Nat→Int→Option S
 |0=>fun _=> .none
 |m+1=>fun v7=>vM k ret l out5 i6 rec1 (m8 k ret rec1 l out5 i6 m) v7
def rl {S:Type} (k:Nat) (ret:List Cl×Int→Option S) (l:List Cl) (J2:(List Cl)→Int→Int→Option S) (rec1:(List Cl)→Int→Option S) (out5:List Cl) (i6:Int):Option S:=
 ab (decide ((i6:Int)<(l.length:Int))) (
 Option.bind (al l i6) fun x3=>
 aa k (xp k l x3) fun r4=>
 ab (!r4) (
   rec1 out5 (IntKind.wrap .i64 (i6+1))) (
   J2 out5 i6 0)) (
 ab (decide (((out5.length:Int):Int)>64)) (
  ret (([]:List Cl),3)) (
  ret (out5,0)))
noncomputable def j8 {S:Type} (k:Nat) (ret:List Cl×Int→Option S) (l:List Cl):Nat→(List Cl)→Int→Option S
 |0=>fun _ _=> .none
 |m+1=>fun out5 i6=>rl k ret l (fun out5 i6 v7=>m8 k ret (j8 k ret l m) l out5 i6 k v7) (j8 k ret l m) out5 i6
def rk {S:Type} (k:Nat) (ret:List Cl×Int→Option S) (l:List Cl) (J1:(List Cl)→Int→Option S) (rec0:Int→Option S) (i4:Int):Option S:=
 ab (decide ((i4:Int)<(l.length:Int))) (
 Option.bind (al l i4) fun x1=>
 aa k (sG k x1) fun r2=>
 ab (!r2) (
  ret (([]:List Cl),2)) (
   rec0 (IntKind.wrap .i64 (i4+1)))) (
  J1 ([]:List Cl) 0)
noncomputable def pm {S:Type} (k:Nat) (ret:List Cl×Int→Option S) (l:List Cl):Nat→Int→Option S
 |0=>fun _=> .none
 |m+1=>fun i4=>rk k ret l (fun out5 i6=>j8 k ret l k out5 i6) (pm k ret l m) i4
noncomputable def Gf {S:Type} (k:Nat) (ret:List Cl×Int→Option S) (J0:Int→Option S) (l:List Cl):Option S:=
 J0 0
noncomputable def iV {S:Type} (k:Nat) (l:List Cl) (ret:List Cl×Int→Option S):Option S:=Gf k ret (fun i4=>pm k ret l k i4) l
def Qn {S:Type} (k:Nat) (ret:Bool→Option S) (f:List Cl):Option S:=
 aa k (iV k f) fun r1=>
 ab (r1.2==0) (
 aa k (iW k r1.1 f) fun r2=>
 ret r2) (
 ret false)
noncomputable def d9 {S:Type} (k:Nat) (f:List Cl) (ret:Bool→Option S):Option S:=Qn k ret f
def Qe {S:Type} (k:Nat) (ret:Bool→Option S) (s i:Int):Option S:=
 ab (decide ((i:Int)≥0)) (
 ab (decide ((i:Int)<24)) (
  aa k (ox k i) fun r1=>
  Option.bind (bS (r1≠0)) fun x2=>
  ret ((Int.tmod (IntKind.wrap .i64 (Int.tdiv (IntKind.wrap .i64 s) r1)) 2)==1)) (
  ret false)) (
 ret false)
noncomputable def dS {S:Type} (k:Nat) (s i:Int) (ret:Bool→Option S):Option S:=Qe k ret s i
def vI {S:Type} (k:Nat) (ret:Int→Option S) (l:List Int) (rec0:Int→Int→Option S) (v3 i4:Int):Option S:=
 ab (decide ((i4:Int)<(l.length:Int))) (
 Option.bind (al l i4) fun x1=>
 aa k (ox k x1) fun r2=>
  rec0 (IntKind.wrap .i64 (v3+r2)) (IntKind.wrap .i64 (i4+1))) (
 ret (IntKind.wrap .u32 v3))
noncomputable def ph {S:Type} (k:Nat) (ret:Int→Option S) (l:List Int):Nat→Int→Int→Option S
 |0=>fun _ _=> .none
 |m+1=>fun v3 i4=>vI k ret l (ph k ret l m) v3 i4
noncomputable def Ga {S:Type} (k:Nat) (ret:Int→Option S) (J0:Int→Int→Option S) (l:List Int):Option S:=
 J0 0 0
noncomputable def iR {S:Type} (k:Nat) (l:List Int) (ret:Int→Option S):Option S:=Ga k ret (fun v3 i4=>ph k ret l k v3 i4) l
def vQ {S:Type} (k:Nat) (ret:Int→Option S) (f:List Cl) (l3:List Int) (i4:Int) (rec0:(List Int)→Int→Option S) (rec1:Bool→Int→Option S) (v5:Bool) (v6:Int):Option S:=
 ab (decide ((v6:Int)<(f.length:Int))) (
 ab (v5) (
   rec1 true (IntKind.wrap .i64 (v6+1))) (
  Option.bind (al f v6) fun x1=>
  aa k (dS k x1.pos i4) fun r2=>
  ab (r2) (
    rec1 true (IntKind.wrap .i64 (v6+1))) (
  Option.bind (al f v6) fun x3=>
  aa k (dS k x3.neg i4) fun r4=>
    rec1 r4 (IntKind.wrap .i64 (v6+1))))) (
 ab (v5) (
  Option.bind (ay 1099511627776 l3.length [i4].length) fun x5=>
   rec0 (l3++[i4]) (IntKind.wrap .i64 (i4+1))) (
   rec0 l3 (IntKind.wrap .i64 (i4+1))))
noncomputable def m9 {S:Type} (k:Nat) (ret:Int→Option S) (rec0:(List Int)→Int→Option S) (f:List Cl) (l3:List Int) (i4:Int):Nat→Bool→Int→Option S
 |0=>fun _ _=> .none
 |m+1=>fun v5 v6=>vQ k ret f l3 i4 rec0 (m9 k ret rec0 f l3 i4 m) v5 v6
def rm {S:Type} (k:Nat) (ret:Int→Option S) (f:List Cl) (J1:(List Int)→Int→Bool→Int→Option S) (rec0:(List Int)→Int→Option S) (l3:List Int) (i4:Int):Option S:=
 ab (decide ((i4:Int)<24)) (
  J1 l3 i4 false 0) (
 aa k (iR k l3) fun r6=>
 ret r6)
noncomputable def lE {S:Type} (k:Nat) (ret:Int→Option S) (f:List Cl):Nat→(List Int)→Int→Option S
 |0=>fun _ _=> .none
 |m+1=>fun l3 i4=>rm k ret f (fun l3 i4 v5 v6=>m9 k ret (lE k ret f m) f l3 i4 k v5 v6) (lE k ret f m) l3 i4
noncomputable def Gj {S:Type} (k:Nat) (ret:Int→Option S) (J0:(List Int)→Int→Option S) (f:List Cl):Option S:=
 J0 ([]:List Int) 0
noncomputable def sI {S:Type} (k:Nat) (f:List Cl) (ret:Int→Option S):Option S:=Gj k ret (fun l3 i4=>lE k ret f k l3 i4) f
def vH {S:Type} (k:Nat) (ret:List Int→Option S) (s:Int) (rec0:(List Int)→Int→Option S) (out3:List Int) (i4:Int):Option S:=
 ab (decide ((i4:Int)<24)) (
 aa k (dS k s i4) fun r1=>
 ab (r1) (
  Option.bind (ay 1099511627776 out3.length [i4].length) fun x2=>
   rec0 (out3++[i4]) (IntKind.wrap .i64 (i4+1))) (
   rec0 out3 (IntKind.wrap .i64 (i4+1)))) (
 ret out3)
noncomputable def pg {S:Type} (k:Nat) (ret:List Int→Option S) (s:Int):Nat→(List Int)→Int→Option S
 |0=>fun _ _=> .none
 |m+1=>fun out3 i4=>vH k ret s (pg k ret s m) out3 i4
noncomputable def F_ {S:Type} (k:Nat) (ret:List Int→Option S) (J0:(List Int)→Int→Option S) (s:Int):Option S:=
 J0 ([]:List Int) 0
noncomputable def iQ {S:Type} (k:Nat) (s:Int) (ret:List Int→Option S):Option S:=F_ k ret (fun out3 i4=>pg k ret s k out3 i4) s
def Qv {S:Type} (k:Nat) (ret:Bool→Option S) (f:List Cl) (dims:Int):Option S:=
 aa k (sI k f) fun r1=>
 aa k (iQ k r1) fun r2=>
 ab ((r2.length:Int)==0) (
 ret true) (
 Option.bind (al r2 (IntKind.wrap .i64 ((r2.length:Int)-1))) fun x3=>
 Option.bind (al r2 (IntKind.wrap .i64 ((r2.length:Int)-1))) fun x4=>
 ret (decide ((x4:Int)<dims)))
noncomputable def sL {S:Type} (k:Nat) (f:List Cl) (dims:Int) (ret:Bool→Option S):Option S:=Qv k ret f dims
def Bj {S:Type} (k:Nat) (ret:Int×Int→Option S) (kind kid:Int):Option S:=
 ab (kid==0) (
 ab (kind==11) (
  ret (0,1)) (
  ab (kind==12) (
  ret (0,1)) (
  ab (kind==14) (
   ret (0,1)) (
   ret (0,0))))) (
 ret (0,0))
noncomputable def yz {S:Type} (k:Nat) (ret:Int×Int→Option S) (kind kid:Int):Nat→Option S
 |0=> .none
 |_+1=>Bj k ret kind kid
def wa {S:Type} (k:Nat) (ret:Int×Int→Option S) (kind kid:Int) (J1:Option S):Option S:=
 ab (kid==0) (
 ab (kind==5) (
  ret (1,0)) (
  ab (kind==22) (
  ret (1,0)) (
  ab (kind==27) (
   ret (1,0)) (
     J1)))) (
  J1)
noncomputable def C6 {S:Type} (k:Nat) (ret:Int×Int→Option S) (kind kid:Int):Nat→Option S
 |0=> .none
 |_+1=>wa k ret kind kid (yz k ret kind kid k)
def Gv {S:Type} (k:Nat) (ret:Int×Int→Option S) (J0:Option S) (kind kid:Int):Option S:=
 ab (kid==1) (
 ab (kind==4) (
  ret (1,0)) (
  ab (kind==7) (
  ret (1,0)) (
    J0))) (
  J0)
noncomputable def oz {S:Type} (k:Nat) (kind kid:Int) (ret:Int×Int→Option S):Option S:=Gv k ret (C6 k ret kind kid k) kind kid
def vL {S:Type} (k:Nat) (ret:Bool→Option S) (c:Cl) (rec0:Int→Option S) (i3:Int):Option S:=
 ab (decide ((i3:Int)<24)) (
 aa k (dS k c.pos i3) fun r1=>
 ab (r1) (
  aa k (dS k c.neg i3) fun r2=>
  ab (r2) (
  ret true) (
    rec0 (IntKind.wrap .i64 (i3+1)))) (
   rec0 (IntKind.wrap .i64 (i3+1)))) (
 ret false)
noncomputable def pk {S:Type} (k:Nat) (ret:Bool→Option S) (c:Cl):Nat→Int→Option S
 |0=>fun _=> .none
 |m+1=>fun i3=>vL k ret c (pk k ret c m) i3
noncomputable def Ge {S:Type} (k:Nat) (ret:Bool→Option S) (J0:Int→Option S) (c:Cl):Option S:=
 J0 0
noncomputable def sE {S:Type} (k:Nat) (c:Cl) (ret:Bool→Option S):Option S:=Ge k ret (fun i3=>pk k ret c k i3) c
def vY {S:Type} (k:Nat) (ret:Bool→Option S) (f:List Cl) (rec0:Int→Option S) (i3:Int):Option S:=
 ab (decide ((i3:Int)<(f.length:Int))) (
 Option.bind (al f i3) fun x2=>
 aa k (sE k x2) fun r3=>
 ab (r3) (
  ret false) (
   rec0 (IntKind.wrap .i64 (i3+1)))) (
 ret true)
noncomputable def px {S:Type} (k:Nat) (ret:Bool→Option S) (f:List Cl):Nat→Int→Option S
 |0=>fun _=> .none
 |m+1=>fun i3=>vY k ret f (px k ret f m) i3
def Gs {S:Type} (k:Nat) (ret:Bool→Option S) (J0:Int→Option S) (f:List Cl):Option S:=
 aa k (d9 k f) fun r1=>
 ab (!r1) (
 ret false) (
  J0 0)
noncomputable def gi {S:Type} (k:Nat) (f:List Cl) (ret:Bool→Option S):Option S:=Gs k ret (fun i3=>px k ret f k i3) f
def Qt {S:Type} (k:Nat) (ret:Int→Option S) (kind:Int):Option S:=
 ab (kind==15) (
 ret 1) (
 ret 0)
noncomputable def oC {S:Type} (k:Nat) (kind:Int) (ret:Int→Option S):Option S:=Qt k ret kind
abbrev dN (S:Type):=Tm→Int→Int→Bool→(Bool→Option S)→Option S
end
end Go.Proofs.YtapmagaejigpnaaGreatDoor
