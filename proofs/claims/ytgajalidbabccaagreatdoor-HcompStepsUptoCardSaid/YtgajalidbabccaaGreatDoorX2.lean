/- Part 2 of a proof: the sources, with their names and remarks, lie in wip/. -/
import Derived.Test.YtgajalidbabccaaGreatDoorX1
import Derived.Recover
import Derived.Orders
import Derived.Test.YtgajalidbabccaaGreatDoorProg
import Derived.KernelRfl
open Bool renaming and_eq_true→aZ
open ByteArray renaming empty→au
open Go.IntKind renaming wrap→af
open Int renaming toNat→cW
open List renaming all_eq_true→dA,length_cons→cM,mem_map→dS,mem_of_getElem?→iM,range→dB
open Nat renaming beq→aU,ble→cX,eq_of_testBit_eq→g6,pow_le_pow_right→jH
open Option renaming bind→ag
set_option linter.unusedVariables false
set_option linter.unusedSimpArgs false
namespace Go.Proofs.YtgajalidbabccaaGreatDoor.PI
open Go
section
variable {U:Uni} {R:Type} (V:Env U) (S:Side U) (C:Oracle U R) (ann:Nat->Option Ann) (fuel:Nat)
def Xs (o:Oper):Option Tmp:=
 match o.dst,o.op,o.guard with
 |some d,.call c,.none=>match c.callee with
  | .builtin .recover=>some d
  |_=> .none
 |_,_,_=> .none
def XJ (v:PV U):Code->St U->(Ex U->St U->Option R)->Option R
 | .seq (.region _ ops draw) b,σ,κ=>match ops.toList with
  |o::more=>match Xs o with
   |some d=>bif !draw&&(Nat.blt d S.nt&&more.all (co S.nt)) then wC V S C ops.toList more [] (σ.setR d v) fun
     | .normal,σ',_=>run V S C ann fuel b σ' κ
     |_,_,_=> .none
    else .none
   | .none=> .none
  |[]=> .none
 |_,_,_=> .none
def MN (keep:Bool) (hand:List Bool) (fn:Func) (v:PV U) (args:List (PV U)) (boxes:List (Box U)) (κ:Out U->Option R):Option R:=
 XJ V S C ann fuel v (km fn) (kT args boxes) (kF V C keep hand fn boxes.length κ)
def JC:List Oper->Option (Oper×Tmp)
 |[o,q]=>match o.dst,o.guard,q.dst,q.op,q.guard with
  |some m,.none,.none,.defer c,.none=>match c.callee with
   | .value (.tmp n)=>bif aU m n&&c.args.isEmpty then some (o,n) else .none
   |_=> .none
  |_,_,_,_,_=> .none
 |_=> .none
def PV.pinned:PV U->Bool
 | .ptr id _=>cX 1000000 id
 |_=>false
def tc:Code->St U->(Ex U->St U->Option R)->(FuncId->List (PV U)->Ex U->St U->Option R)->Option R
 | .seq a b,σ,κ0,κ1=>match a with
  | .region id ops draw=>match JC ops.toList with
   |some (o,n)=>bif !draw&&co S.nt o then (cL V S o).cps C σ [] fun
     | .done,σ',_=>match σ'.r n with
      | .func h [] caps=>bif caps.all PV.pinned then run V {S with pin:=fun _=>false} C ann fuel b σ' (κ1 h caps) else .none
      |_=> .none
     |_,_,_=> .none
    else .none
   | .none=>run V S C ann fuel (.region id ops draw) σ fun
    | .normal,σ'=>tc b σ' κ0 κ1
    |e,σ'=>κ0 e σ'
  |a=>run V S C ann fuel a σ fun
   | .normal,σ'=>tc b σ' κ0 κ1
   |e,σ'=>κ0 e σ'
 |_,_,_,_=> .none
def kD (Cd:PV U->Oracle U R) (keep:Bool) (hand:List Bool) (fn:Func) (nb:Nat) (κ:Out U->Option R) (h:FuncId) (caps:List (PV U)):Ex U->St U->Option R
 | .normal,σ=>(lA (PV.idsL caps) fun _=>mh (fun _=>0) (fun _=>[]) [] .none (.func h [] caps) []).cps (Cd .nilIface) σ [] fun
  | .done,σ',_=>(m0 V keep hand fn.results.toList nb).cps C σ' [] (fin κ)
  |_,_,_=> .none
 | .ret,σ=>(lA (PV.idsL caps) fun _=>mh (fun _=>0) (fun _=>[]) [] .none (.func h [] caps) []).cps (Cd .nilIface) σ [] fun
  | .done,σ',_=>(m0 V keep hand fn.results.toList nb).cps C σ' [] (fin κ)
  |_,_,_=> .none
 | .panic v,σ=>match v with
  | .iface t (.int k n)=>(lA (PV.idsL caps) fun _=>mh (fun _=>0) (fun _=>[]) [] .none (.func h [] caps) []).cps (Cd (.iface t (.int k n))) σ [] fun
   | .done,σ',_=>(m0 V keep hand fn.results.toList nb).cps C σ' [] (fin κ)
   |_,_,_=> .none
  |_=> .none
 | .exit _,_=> .none
def RE:Code->List Bool->List (St U->Option R)->(Nat->Option Ann)->(Ex U->St U->Option R)->(FuncId->List (PV U)->Ex U->St U->Option R)->Ex U->St U->Option R
 | .seq a b,false::p,rs,an,κ0,κ1=>nY V S C ann fuel a p rs an fun
  | .normal,σ'=>tc V S C ann fuel b σ' κ0 κ1
  |e,σ'=>κ0 e σ'
 | .seq _ b,true::p,rs,an,κ0,κ1=>RE b p rs an κ0 κ1
 |_,_,_,_,κ0,_=>κ0
def MM (Cd:PV U->Oracle U R) (keep:Bool) (hand:List Bool) (fn:Func) (args:List (PV U)) (boxes:List (Box U)) (κ:Out U->Option R):Option R:=
 tc V S C ann fuel (km fn) (kT args boxes) (kF V C keep hand fn boxes.length κ) (kD V C Cd keep hand fn boxes.length κ)
end
section
variable {U:Uni} {V:Env U} {P:Program} {X:Link V P}
inductive RcvOK:PV U->FrameMode->FrameMode->Prop
 |nil:RcvOK .nilIface .returning .returning
 |err (t:TypeId) (k:IntKind) (n:Int):RcvOK (.iface t (.int k n)) (.panicking [{v:= .iface t (.int k n),recovered:=false}]) (.panicking [{v:= .iface t (.int k n),recovered:=true}])
def ni (P:Program) (u u':FrameMode):FuncId->Array Value->World->(Ending->World->Prop)->Prop:=fun f vs w R=>CallsD P f vs u w fun e u2 w'=>u2=u'/\R e w'
theorem atO {ops:Array Oper} {cs:List Frame} {Q:Exit->Act->List Frame->World->Prop} (hQ: ¬LetsOut (fun e a' w'=>Q e a' cs w')): ∀ (l:List Nat) (a:Act) (w:World),wpOps P ops (fun e a' w'=>Q e a' cs w') l a w->wpOpsS P ops Q l a cs w:=by
 intro l
 induction l with
 |nil=>intro a w h;exact h
 |cons i l ih=>
  intro a w h
  simp only [wpOps,wpOpsS] at h ⊢
  cases ho:ops[i]? with
  |none=>grind
  |some o=>
   rw [ho] at h
   simp only at h ⊢
   split
   ·rename_i hw
    rw [if_pos hw] at h
    have h:=h.resolve_right fun h=>hQ h.2
    have h:=Oper.wp_mono ih h
    unfold Oper.wp at h
    split
    ·rename_i w' hrun
     rw [hrun] at h
     exact h.elim
    simp_all
   grind
theorem aqo (hm:P.follows .mixedOrders=true) (hI:oS X) {S:Side U} (hS:S.rcv=none) (hpin:S.pin=fun _=>false) {R:Type} {C:Oracle U R} (hC:C.Tells (dm X)) {f:FuncId} {fn:Func} (hf:P.funcs[f]? =some fn)
  (hname:(fn.name== "runtime.NumGoroutine")=false) (hbody:fn.body.isNone=false) (hnt:fn.ntmps=S.nt) (hlow:S.nt<=1000000) {v:PV U} {u u':FrameMode} (hv:RcvOK v u u') {args:List (PV U)} {boxes:List (Box U)} (hargs:args.length<=S.nt)
  {ann:Nat->Option Ann} {fuel:Nat} {keep:Bool} {hand:List Bool} {κ:Out U->Option R} {x:R} (h:MN V S C ann fuel keep hand fn v args boxes κ=some x): ∃out,κ out=some x/\me X (ni P u u') f args boxes out:=by
 obtain ⟨code,hcode⟩: ∃code,fn.body=some code:=by
  cases hb:fn.body<;>grind
 unfold MN km at h
 rw [hcode] at h
 simp only at h
 unfold XJ at h
 split at h
 case h_2=>cases h
 rename_i id ops draw b
 split at h
 case h_2=>cases h
 rename_i o more hops
 split at h
 case h_2=>cases h
 rename_i d hrec
 cases hc:(!draw&&(Nat.blt d S.nt&&more.all (co S.nt))) with
 |false=>grind
 |true=>
 rw [hc] at h
 simp only [cond_true] at h
 simp only [aZ,Bool.not_eq_true'] at hc
 obtain ⟨hdraw,hd,hall⟩:=hc
 subst hdraw
 have hd:d<S.nt:=by simp_all
 unfold Xs at hrec
 obtain ⟨dst,op,ty,pos,after,gd⟩:=o
 simp only at hrec
 split at hrec
 case h_2=>simp_all
 rename_i d0 cl
 split at hrec
 case h_2=>simp_all
 rename_i hcl
 injection hrec with hrec
 subst hrec
 obtain ⟨e1,fps,τ0,τ1,hops1,ht1,hk1⟩:=XI (dm X) V S hC ops.toList more h (St.eqv.refl _)
 cases e1 with
 |exit id=>cases hk1
 |ret=>cases hk1
 |panic v=>cases hk1
 |normal=>
 simp only at hk1
 obtain ⟨e,τ,hbig,hk⟩:=GO (dm X) V S ann hC fuel b hk1
 have hsz:ops.size=more.length+1:=by have:=congrArg List.length hops;omega
 have key: ∀ {out:Out U},(∀ (w:World) (vs:Array Value) (N0:bm) (ν:Nat->Nat) (δ:Nat->Option Nat) (ο:Nat->Array Value) (hg:Given X w vs N0 ν δ ο args boxes),
   Lands X (ke w N0 boxes.length args.length ν δ ο hg.oz S.nt hlow hg.bnd X.gblk hg.glob) [] e τ (bodyPost P fn (Ret X w N0 ν δ ο boxes.length args.length out)))->me X (ni P u u') f args boxes out:=by
  intro out hl
  refine ⟨⟨fn,hf,hname,hbody⟩,fun w vs N0 ν δ ο hg=> ?_⟩
  suffices hgoal:ni P u u' f vs w (Ret X w N0 ν δ ο boxes.length args.length out) from CallsD.mono hgoal fun e u2 w2 h=>⟨h.1,Ret.full h.2⟩
  refine callsD_of_wpS hf hcode fun c₀ cs hu=> ?_
  have hs:=G4 hg hargs hlow
  rw [hnt]
  have hl:=hl w vs N0 ν δ ο hg
  generalize hcx:ke w N0 boxes.length args.length ν δ ο hg.oz S.nt hlow hg.bnd X.gblk hg.glob=c at hs hl
  have hcnt:c.nt=S.nt:=by rw [<-hcx];rfl
  have hOS:qW X (dm X) S c:=sO hI hS fun d hd=>by grind
  obtain ⟨val,cs2,hrv,hrep⟩: ∃val cs2,(match recoverD (c₀::cs) with|some (v,cs')=>v=val/\cs'=cs2|none=>val= .nilIface/\cs2=c₀::cs)/\(∃c1:Frame,cs2={c₀ with mode:=u'}::cs)/\ ∀ (w:World) (N:bm) (g:Gh U),Rep X w N g val v:=by
   cases hv with
   |nil=>
    refine ⟨.nilIface,c₀::cs, ?_,⟨c₀, ?_⟩,fun _ _ _=> .nilIface⟩
    ·simp [recoverD,hu]
    ·rw [<-hu]
   |err t k n=>
    refine ⟨.iface t (.int k n),_, ?_,⟨c₀,rfl⟩,fun _ _ _=> .iface _ _ _ (.int _ _)⟩
    simp [recoverD,hu]
  obtain ⟨⟨_,hcs2⟩,hrep⟩:=hrep
  refine wpS_seq (wpS_region ?_)
  rw [hsz,List.range_eq_range',List.range'_succ]
  have h0:ops[0]? =some ⟨some d0,.call cl,ty,pos,after,none⟩:=by rw [<-Array.getElem?_toList,hops];rfl
  simp only [wpOpsS,h0]
  have hrun:(execOp (Act.eval ⟨vs++Array.replicate (S.nt-vs.size) undef,[]⟩) ⟨some d0,.call cl,ty,pos,after,none⟩).run P w= .ok .recover w:=by
   simp_all [XM,builtin]
  rw [if_pos (by rfl),hrun]
  simp only
  have hnext:wpOpsS P ops (Exit.thenS (b.wpS P (bodyPostS P fn c₀ cs fun e u2 w'=>u2=u'/\Ret X w N0 ν δ ο boxes.length args.length out e w')) (bodyPostS P fn c₀ cs fun e u2 w'=>u2=u'/\Ret X w N0 ν δ ο boxes.length args.length out e w')) (List.range' (0+1) more.length)
    (Act.put ⟨vs++Array.replicate (S.nt-vs.size) undef,[]⟩ (some d0) val) cs2 w:=by
   have hs1:=hs.put (d:=d0) (by grind) (hrep w _ _)
   have hLO: ∀ {next:Act->List Frame->World->Prop},¬LetsOut (fun e a' w'=>Exit.thenS next (bodyPostS P fn c₀ cs fun e u2 w'=>u2=u'/\Ret X w N0 ν δ ο boxes.length args.length out e w') e a' cs2 w'):=by
    rintro next ⟨a',w',u2,_,hq⟩
    exact hq
   refine atO hLO _ _ _ ?_
   refine ZC hOS more 1 _ w _ _ _ fps (by grind) (by grind) hs1 hops1 ?_
   intro a2 w2 g2 D2 hd2 hs2
   simp only [Exit.thenS]
   refine wpS_of_wp (tG hm hOS hcnt hbig a2 w2 g2 D2 _ (hs2.eqv ht1) ?_)
   intro a3 w3 g3 D3 hd3 hs3
   have hd0:a3.defers=[]:=hd3.trans hd2
   have hb:=hl a3 w3 g3 D3 hd0 hs3
   rw [hcs2]
   cases e with
   |normal=>obtain ⟨q1,v1,q2,q3⟩:=hb;exact ⟨q1,u',rfl,v1,q2,rfl,q3⟩
   |ret=>obtain ⟨q1,v1,q2,q3⟩:=hb;exact ⟨q1,u',rfl,v1,q2,rfl,q3⟩
   |exit id=>exact hb.elim
   |panic pv=>intro val' hval';obtain ⟨q1,q3⟩:=hb val' hval';exact ⟨q1,u',rfl,rfl,q3⟩
  grind
 cases e with
 |exit id=>cases hk
 |normal=>
  obtain ⟨r,τ0,τ1,gp,hr,ht,hfin⟩:=kn hC _ hk (St.eqv.refl τ)
  cases r with
  |out o=>
   refine ⟨o,hfin,key fun w vs N0 ν δ ο hg a' w' g' D' hd hs=> ?_⟩
   obtain ⟨v,h1,h2⟩:=wy oO hg.dom hs hr
   exact ⟨hd,v,h1,h2⟩
  |_=>cases hfin
 |ret=>
  obtain ⟨r,τ0,τ1,gp,hr,ht,hfin⟩:=kn hC _ hk (St.eqv.refl τ)
  cases r with
  |out o=>
   refine ⟨o,hfin,key fun w vs N0 ν δ ο hg a' w' g' D' hd hs=> ?_⟩
   obtain ⟨v,h1,h2⟩:=wy oO hg.dom hs hr
   exact ⟨hd,v,h1,h2⟩
  |_=>cases hfin
 |panic v=>
  obtain ⟨r,τ0,τ1,gp,hr,ht,hfin⟩:=kn hC _ hk (St.eqv.refl τ)
  cases r with
  |out o=>
   refine ⟨o,hfin,key fun w vs N0 ν δ ο hg a' w' g' D' hd hs val hval=> ?_⟩
   exact ⟨hd,LI oO hg.dom hs hval hr⟩
  |_=>cases hfin
end
section
variable {U:Uni} {V:Env U} {P:Program} {X:Link V P}
def Ctx.refix (c:Ctx) (μ:Nat->Option Nat) (L:List Nat) (hnt:c.nt<=1000000) (hL: ∀id∈L,1000000<=id):Ctx:=
 {c with
  fix:=fun id=>if id∈L then μ id else c.fix id
  low:=fun id k h=>by
   split at h
   ·grind
   ·exact c.low id k h}
theorem Sim.refix {c:Ctx} {tm:Array Value} {w:World} {σ:St U} {g:Gh U} {D:Nat->Option Nat} (h:Sim X c tm w σ g D) {L:List Nat} {hnt:c.nt<=1000000} {hL: ∀id∈L,1000000<=id}:
  Sim X (c.refix g.μ L hnt hL) tm w σ g D where
 nt:=h.nt
 regs:=h.regs
 boxes:=h.boxes
 dom:=h.dom
 inj:=h.inj
 new:=h.new
 objs:=h.objs
 nobj:=h.nobj
 dinj:=h.dinj
 dnew:=h.dnew
 dbox:=h.dbox
 ext:=h.ext
 gl:=h.gl
 fix:=fun id k hk=>by
  simp only [Ctx.refix]
  by_cases hin:id∈L
  ·grind
  ·rw [if_neg hin];exact h.fix id k hk
theorem CtxOf.refix {c:Ctx} {tm:Array Value} {w:World} {σ:St U} {g:Gh U} {D:Nat->Option Nat} (h:Sim X c tm w σ g D) {L:List Nat} {hnt:c.nt<=1000000} {hL: ∀id∈L,1000000<=id} (hLμ: ∀id∈L,∃b,g.μ id=some b)
  {w0:World} {N0:bm} {n m:Nat} {ν:Nat->Nat} {δ:Nat->Option Nat} {ο:Nat->Array Value} (hc:CtxOf c w0 N0 n m ν δ ο):CtxOf (c.refix g.μ L hnt hL) w0 N0 n m ν δ ο where
 cw:=hc.cw
 cN:=hc.cN
 bl:=hc.bl
 fix i hi:=by
  simp only [Ctx.refix]
  by_cases hin:fh i∈L
  ·rw [if_pos hin]
   obtain ⟨b,hb⟩:=hLμ _ hin
   rcases h.fix _ _ hb with h1|⟨h1,_⟩
   ·rw [hb,<-h1];exact hc.fix i hi
   ·rw [hc.fix i hi] at h1;cases h1
  ·rw [if_neg hin];exact hc.fix i hi
 other id k hk:=by
  simp only [Ctx.refix] at hk
  by_cases hin:id∈L
  ·rw [if_pos hin] at hk
   rcases h.fix _ _ hk with h1|⟨_,h1⟩
   ·exact hc.other id k h1
   ·rw [hc.cw] at h1;omega
  ·rw [if_neg hin] at hk;exact hc.other id k hk
 bnd:=hc.bnd
 oo:=hc.oo
def Hu (c':Ctx) (caps:List (PV U)) (us:Array Value):Prop:=us.size=caps.length/\ ∀ (j:Nat) p,caps[j]? =some p-> ∃id off b,p= .ptr id off/\c'.fix id=some b/\us.getD j undef= .pointer (some ⟨b,off,none⟩)
def Hw (X:Link V P) (S:Side U) (code:Code) (σ:St U) (h:FuncId) (caps:List (PV U)) (e:Ex U) (τ:St U):Prop:=
 ∀ (c:Ctx),PinOK S c->c.nt=S.nt-> ∀ (a:Act) (w:World) (g:Gh U) (D:Nat->Option Nat) (Q:Exit->Act->World->Prop),Sim X c a.tmps w σ g D->a.defers=[]->
  (∀ (us:Array Value) (c':Ctx),(∀w0 N0 n m ν δ ο,CtxOf c w0 N0 n m ν δ ο->CtxOf c' w0 N0 n m ν δ ο)->c'.nt=c.nt->Hu c' caps us->Lands X c' [{target:= .fn (.func h) us,args:= #[]}] e τ Q)->code.wp P Q a w
theorem agI {l:List Oper} {o:Oper} {n:Tmp} (h:JC l=some (o,n)): ∃q cl,l=[o,q]/\o.dst=some n/\o.guard=none/\q.dst=none/\q.op= .defer cl/\q.guard=none/\cl.callee= .value (.tmp n)/\cl.args= #[]:=by
 unfold JC at h
 split at h
 case h_2=>cases h
 rename_i o' q
 split at h
 case h_2=>cases h
 rename_i m cl h1 h2 h3 h4 h5
 split at h
 case h_2=>cases h
 rename_i n' hcl
 cases hb:(aU m n'&&cl.args.isEmpty)<;>simp_all
theorem aqn (hm:P.follows .mixedOrders=true) (hI:oS X) {S:Side U} (hS:S.rcv=none) (hlow:S.nt<=1000000) {R:Type} {C:Oracle U R} (hC:C.Tells (dm X)) {ann:Nat->Option Ann} {fuel:Nat}:
  ∀ (code:Code) {σ:St U} {κ0:Ex U->St U->Option R} {κ1:FuncId->List (PV U)->Ex U->St U->Option R} {x:R},tc V S C ann fuel code σ κ0 κ1=some x->
   (∃e τ,e≠ .normal/\κ0 e τ=some x/\ ∀c,PinOK S c->c.nt=S.nt->Bx X c none code σ e τ)\/
   (∃h caps e τ,κ1 h caps e τ=some x/\Hw X S code σ h caps e τ):=by
 intro code
 induction code with
 |seq a b iha ihb=>
  intro σ κ0 κ1 x h
  have step:run V S C ann fuel a σ (fun| .normal,σ'=>tc V S C ann fuel b σ' κ0 κ1|e,σ'=>κ0 e σ')=some x->
    (∃e τ,e≠ .normal/\κ0 e τ=some x/\ ∀c,PinOK S c->c.nt=S.nt->Bx X c none (.seq a b) σ e τ)\/
    (∃h caps e τ,κ1 h caps e τ=some x/\Hw X S (.seq a b) σ h caps e τ):=by
   intro h
   obtain ⟨e,τ,hbig,hk⟩:=GO (dm X) V S ann hC fuel a h
   have early:e≠ .normal->κ0 e τ=some x->_:=fun he hk=>(.inl ⟨e,τ,he,hk,fun c hP hnt=>tG hm (sO hI hS hP) hnt (.seqE a b _ _ _ hbig he)⟩:
    (∃e τ,e≠ .normal/\κ0 e τ=some x/\ ∀c,PinOK S c->c.nt=S.nt->Bx X c none (.seq a b) σ e τ)\/(∃h caps e τ,κ1 h caps e τ=some x/\Hw X S (.seq a b) σ h caps e τ))
   cases e with
   |normal=>
    rcases ihb hk with ⟨e',τ',he',hk',hB⟩|⟨hh,caps,e',τ',hk',hB⟩
    ·exact .inl ⟨e',τ',he',hk',fun c hP hnt a' w g D Q hs hl=>wp_seq (tG hm (sO hI hS hP) hnt hbig a' w g D _ hs fun a2 w2 g2 D2 hd2 hs2=>hB c hP hnt a2 w2 g2 D2 Q hs2 (by grind))⟩
    ·exact .inr ⟨hh,caps,e',τ',hk',fun c hP hnt a' w g D Q hs hd hl=>wp_seq (tG hm (sO hI hS hP) hnt hbig a' w g D _ hs fun a2 w2 g2 D2 hd2 hs2=>hB c hP hnt a2 w2 g2 D2 Q hs2 (hd2.trans hd) hl)⟩
   |exit id=>grind
   |ret=>grind
   |panic v=>grind
  clear iha
  unfold tc at h
  split at h
  case h_2=>grind
  rename_i id ops draw
  split at h
  case h_2=>grind
  rename_i o n hdfr
  obtain ⟨q,cl,hops,ho1,ho2,hq1,hq2,hq3,hcl,hargs⟩:=agI hdfr
  cases hc:(!draw&&co S.nt o) with
  |false=>grind
  |true=>
  rw [hc] at h
  simp only [cond_true] at h
  simp only [aZ,Bool.not_eq_true'] at hc
  obtain ⟨hdraw,hdo⟩:=hc
  subst hdraw
  obtain ⟨r,τ0,τ,gp,hrel,ht,hk⟩:=kn hC _ h (St.eqv.refl σ)
  cases r with
  |raise v=>cases hk
  |out o=>cases hk
  |done=>
  simp only at hk
  split at hk
  case h_2=>cases hk
  rename_i hh caps hfun
  cases hp:caps.all PV.pinned with
  |false=>grind
  |true=>
  rw [hp] at hk
  simp only [cond_true] at hk
  obtain ⟨e,τ2,hbig,hk2⟩:=GO (dm X) V {S with pin:=fun _=>false} ann hC fuel b hk
  refine .inr ⟨hh,caps,e,τ2,hk2,fun c hP hnt a w g D Q hs hdef hl=>wp_seq (wp_region ?_)⟩
  have hsz:ops.size=2:=by have:=congrArg List.length hops;omega
  have h0:ops[0]? =some o:=by rw [<-Array.getElem?_toList,hops];rfl
  have h1:ops[1]? =some q:=by rw [<-Array.getElem?_toList,hops];rfl
  rw [hsz,show dB 2=[0,1] from rfl]
  simp only [wpOps,h0,h1]
  rw [if_pos (by simp [Region.wanted,ho2])]
  refine .inl (sO hI hS hP o a w σ g D .done τ0 [] gp _ _ (by grind) hs hrel ⟨fun _ a2 w2 g2 D2 hd2 hs2=> ?_,fun v hv=>by cases hv⟩)
  rw [if_pos (by simp [Region.wanted,hq3])]
  refine .inl ?_
  have hs3:=hs2.eqv ht
  have hR:=hs3.regs n
  rw [hfun] at hR
  generalize hev:a2.tmps.getD n undef=ev at hR
  cases hR with
  |func _ _ _ vs us hvs hus hf1 hf2=>
  have hvs0:vs= #[]:=by
   grind
  subst hvs0
  obtain ⟨qd,qo,qt,qp,qa,qg⟩:=q
  simp only at hq1 hq2 hq3
  subst hq1;subst hq2;subst hq3
  have hrun:(execOp a2.eval ⟨none,.defer cl,qt,qp,qa,none⟩).run P w2= .ok (.defer {target:= .fn (.func hh) us,args:= #[]}) w2:=by
   have hev':a2.eval (.tmp n)= .func (.func hh) #[] us:=hev
   simp_all [execOp,resolve,Deferred.ofValue]
  unfold Oper.wp
  rw [hrun,Oper.upon_defer]
  have hids: ∀id∈PV.idsL caps,1000000<=id/\ ∃b,g2.μ id=some b:=by
   intro id hid
   obtain ⟨p,hpm,hpi⟩: ∃p∈caps,id∈p.ids:=by
    clear hl hk2 hbig hk hf1 hf2 hus hfun hp h step
    induction caps<;>grind [PV.idsL]
   have hpp:=dA.1 hp p hpm
   obtain ⟨j,hj⟩:=List.mem_iff_getElem?.1 hpm
   have hr:=hf2 j p hj
   cases p with
   |ptr id' off=>
    simp only [PV.ids,List.mem_singleton] at hpi
    subst hpi
    refine ⟨by simp_all [PV.pinned], ?_⟩
    generalize us.getD j undef=uv at hr
    cases hr<;>grind
   |_=>cases hpp
  have hcnt:c.nt<=1000000:=by omega
  refine tG (S:={S with pin:=fun _=>false}) hm (sO hI hS fun d hd=>by cases hd) (c:=c.refix g2.μ (PV.idsL caps) hcnt fun id hid=>(hids id hid).1) hnt hbig _ w2 g2 D2 Q hs3.refix ?_
  have hld:=hl us (c.refix g2.μ (PV.idsL caps) hcnt fun id hid=>(hids id hid).1) (fun w0 N0 n m ν δ ο hc=>CtxOf.refix hs3 (fun id hid=>(hids id hid).2) hc) rfl ⟨hus,fun j p hj=> ?_⟩
  ·grind [Act.put]
  ·have hpp:=dA.1 hp p (iM hj)
   have hr:=hf2 j p hj
   cases p with
   |ptr id off=>
    have hin:id∈PV.idsL caps:=iV hj id (by simp [PV.ids])
    generalize us.getD j undef=uv at hr
    cases hr<;>grind [Ctx.refix]
   |_=>cases hpp
 |_=>intro σ κ0 κ1 x h;cases h
end
section
variable {U:Uni} {V:Env U} {P:Program} {X:Link V P}
theorem KR {fn:Func} {w0:World} {N0:bm} {n m:Nat} {ν:Nat->Nat} {δ:Nat->Option Nat} {c':Ctx} {ο:Nat->Array Value} (hc:CtxOf c' w0 N0 n m ν δ ο) (hdom: ∀j b,δ j=some b->j<m) {v:PV U} {u u':FrameMode} (hv:RcvOK v u u')
  {hh:FuncId} {caps:List (PV U)} {us:Array Value} (hct:Hu c' caps us) {τ τ1:St U} {r:MR U} {τ0:St U} {gp gp':List Loc} {K:dn U} {keep:Bool} {hand:List Bool} {out:Out U} {τ2:St U}
  (hrel:(lA (PV.idsL caps) fun _=>mh (fun _=>0) (fun _=>[]) [] none (.func hh [] caps) []).Rel (me X (ni P u u')) τ [] r τ0 gp) (hr:r= .done) (ht:τ0.eqv τ1) (hret:(m0 V keep hand fn.results.toList n).Rel K τ1 [] (.out out) τ2 gp')
  {a:Act} {w:World} {g:Gh U} {D:Nat->Option Nat} (hs:Sim X c' a.tmps w τ g D):
  Leaves P fn a.tmps (Ret X w0 N0 ν δ ο n m out) [{target:= .fn (.func hh) us,args:= #[]}] u w:=by
 obtain ⟨bs,fp1,hrel1,hkeys,hbs⟩:=Kg _ hrel
 have hR:Rep X w (c'.N g D) g (.func (.func hh) #[] us) (.func hh [] caps):=by
  refine .func hh [] caps #[] us rfl hct.1 (by simp) fun j p hp=> ?_
  obtain ⟨id,off,b,rfl,hfix,hus⟩:=hct.2 j p hp
  rw [hus]
  refine .ptr id off b ?_
  have hin:id∈PV.idsL caps:=iV hp id (by simp [PV.ids])
  rw [<-hkeys] at hin
  obtain ⟨x,hx,rfl⟩:=dS.1 hin
  obtain ⟨k,hk,_⟩:=hs.boxes x.1 x.2 (hbs x hx)
  rcases hs.fix _ _ hk with h1|⟨h1,_⟩
  ·rw [hfix] at h1;injection h1 with h1;rw [h1];exact hk
  ·rw [hfix] at h1;cases h1
 obtain ⟨f,a0s,bs',hfv,⟨fnh,hfh,hnameh,hbodyh⟩,hcall⟩:=Po (X:=X) (c:=c') (a:=a) (dst:=none) (o:=⟨none,.move (.const undef),0, "",#[],none⟩) (CP:=ni P u u') (xs:= #[])
  (next:=fun a2 w2=>Leaves P fn a2.tmps (Ret X w0 N0 ν δ ο n m out) [] .returning w2) (Q:=fun _ _ _=>False)
  (fun {f vs w R R'} h hm=>CallsD.mono h fun e u2 w2 ⟨h1,h2⟩=>⟨h1,hm e w2 h2⟩) hs hR rfl (by simp) rfl rfl hrel1
  ⟨fun _ a2 w2 g2 D2 _ hs2=>by
   obtain ⟨v,h1,h2⟩:=wy hc hdom (hs2.eqv ht) hret
   exact ⟨v,h1,h2⟩,fun v hv=>by rw [hr] at hv;cases hv⟩
 injection hfv with e1 e2 e3
 injection e1 with e1
 subst e1;subst e2;subst e3
 have hun:u≠ .run:=by cases hv<;>simp
 refine leaves_cons hun (f:=hh) (args:= #[]++us) (by simp only [invoke];exact XN hfh hnameh hbodyh _ w) ?_
 have hcall2:CallsD P hh (#[]++us) u w fun e u2 w'=>u2=u'/\(match e,w' with
    | .returned v,w''=>Leaves P fn (a.put none v).tmps (Ret X w0 N0 ν δ ο n m out) [] .returning w''
    | .panicked chain,w''=>False
    | .outgrown,_=>LetsOut (fun _ _ _=>False)):=by
  have:=hcall
  simp only [Array.append_empty] at this
  exact this.mono fun e u2 w2 ⟨h1,h2⟩=>⟨h1,by cases e<;>exact h2⟩
 refine hcall2.mono fun e u2 w2 ⟨h1,h2⟩=> ?_
 subst h1
 cases e with
 |returned rv=>
  simp only [Act.put] at h2
  have hset:settle u2= .returning:=by cases hv<;>rfl
  simp only [hset]
  exact h2
 |panicked chain=>exact h2.elim
 |outgrown=>obtain ⟨_,_,h⟩:=h2;exact h.elim
theorem aqm (hm:P.follows .mixedOrders=true) (hI:oS X) {S:Side U} (hS:S.rcv=none) {R:Type} {C:Oracle U R} (hC:C.Tells (dm X)) {Cd:PV U->Oracle U R} (hCd: ∀v u u',RcvOK v u u'->(Cd v).Tells (me X (ni P u u')))
  {f:FuncId} {fn:Func} (hf:P.funcs[f]? =some fn)
  (hname:(fn.name== "runtime.NumGoroutine")=false) (hbody:fn.body.isNone=false) (hnt:fn.ntmps=S.nt) (hlow:S.nt<=1000000) {args:List (PV U)} {boxes:List (Box U)} (hargs:args.length<=S.nt) (hboxes:boxes.length<=1000000)
  {ann:Nat->Option Ann} {fuel:Nat} {keep:Bool} {hand:List Bool} {κ:Out U->Option R} {x:R} (h:MM V S C ann fuel Cd keep hand fn args boxes κ=some x): ∃out,κ out=some x/\dm X f args boxes out:=by
 obtain ⟨code,hcode⟩: ∃code,fn.body=some code:=by
  cases hb:fn.body with
  |none=>rw [hb] at hbody;cases hbody
  |some code=>exact ⟨code,rfl⟩
 unfold MM km at h
 rw [hcode] at h
 have hpin: ∀ {w:World} {vs:Array Value} {N0:bm} {ν:Nat->Nat} {δ:Nat->Option Nat} {ο:Nat->Array Value} (hg:Given X w vs N0 ν δ ο args boxes),PinOK S (ke w N0 boxes.length args.length ν δ ο hg.oz S.nt hlow hg.bnd X.gblk hg.glob):=by
  intro w vs N0 ν δ ο hg d _
  simp only [ke]
  rw [if_neg (by omega)]
 rcases aqn (X:=X) hm hI hS hlow hC code h with ⟨e,τ,he,hk,hB⟩|⟨hh,caps,e,τ,hk,hB⟩
 ·have key: ∀ {out:Out U},(∀ (w:World) (vs:Array Value) (N0:bm) (ν:Nat->Nat) (δ:Nat->Option Nat) (ο:Nat->Array Value) (hg:Given X w vs N0 ν δ ο args boxes),
    Lands X (ke w N0 boxes.length args.length ν δ ο hg.oz S.nt hlow hg.bnd X.gblk hg.glob) [] e τ (bodyPost P fn (Ret X w N0 ν δ ο boxes.length args.length out)))->dm X f args boxes out:=by
   intro out hl
   refine ⟨⟨fn,hf,hname,hbody⟩,fun w vs N0 ν δ ο hg=>Calls.mono (calls_of_wp (R:=Ret X w N0 ν δ ο boxes.length args.length out) hf hcode ?_) fun e w h=>Ret.full h⟩
   have hs:=G4 hg hargs hlow
   rw [hnt]
   exact hB _ (hpin hg) rfl _ w _ _ _ hs (hl w vs N0 ν δ ο hg)
  cases e with
  |exit id=>cases hk
  |normal=>exact absurd rfl he
  |ret=>
   obtain ⟨r,τ0,τ1,gp,hr,ht,hfin⟩:=kn hC _ hk (St.eqv.refl τ)
   cases r with
   |out o=>
    refine ⟨o,hfin,key fun w vs N0 ν δ ο hg a' w' g' D' hd hs=> ?_⟩
    obtain ⟨v,h1,h2⟩:=wy oO hg.dom hs hr
    exact ⟨hd,v,h1,h2⟩
   |_=>cases hfin
  |panic v=>
   obtain ⟨r,τ0,τ1,gp,hr,ht,hfin⟩:=kn hC _ hk (St.eqv.refl τ)
   cases r with
   |out o=>
    refine ⟨o,hfin,key fun w vs N0 ν δ ο hg a' w' g' D' hd hs val hval=> ?_⟩
    exact ⟨hd,LI oO hg.dom hs hval hr⟩
   |_=>cases hfin
 ·have key: ∀ {out:Out U},(∀ (w:World) (vs:Array Value) (N0:bm) (ν:Nat->Nat) (δ:Nat->Option Nat) (ο:Nat->Array Value) (hg:Given X w vs N0 ν δ ο args boxes) (us:Array Value) (c':Ctx),CtxOf c' w N0 boxes.length args.length ν δ ο->Hu c' caps us->
    Lands X c' [{target:= .fn (.func hh) us,args:= #[]}] e τ (bodyPostD P fn (Ret X w N0 ν δ ο boxes.length args.length out)))->dm X f args boxes out:=by
   intro out hl
   refine ⟨⟨fn,hf,hname,hbody⟩,fun w vs N0 ν δ ο hg=>Calls.mono (calls_of_wp_defers (R:=Ret X w N0 ν δ ο boxes.length args.length out) hf hcode ?_) fun e w h=>Ret.full h⟩
   have hs:=G4 hg hargs hlow
   rw [hnt]
   exact hB _ (hpin hg) rfl _ w _ _ _ hs rfl fun us c' hcx _ hct=>hl w vs N0 ν δ ο hg us c' (hcx _ _ _ _ _ _ _ oO) hct
  have fin: ∀ {v:PV U} {u u':FrameMode},RcvOK v u u'->(lA (PV.idsL caps) fun _=>mh (fun _=>0) (fun _=>[]) [] none (.func hh [] caps) []).cps (Cd v) τ [] (fun| .done,σ',_=>(m0 V keep hand fn.results.toList boxes.length).cps C σ' [] (Go.Proofs.YtgajalidbabccaaGreatDoor.PI.fin κ)|_,_,_=>none)=some x->
    ∃ (out:Out U) (r:MR U) (τ0 τ1 τ2:St U) (gp gp':List Loc),κ out=some x/\(lA (PV.idsL caps) fun _=>mh (fun _=>0) (fun _=>[]) [] none (.func hh [] caps) []).Rel (me X (ni P u u')) τ [] r τ0 gp/\r= .done/\τ0.eqv τ1/\(m0 V keep hand fn.results.toList boxes.length).Rel (dm X) τ1 [] (.out out) τ2 gp':=by
   intro v u u' hv hk
   obtain ⟨r,τ0,τ1,gp,hr,ht,hk1⟩:=kn (hCd v u u' hv) _ hk (St.eqv.refl τ)
   cases r with
   |raise v=>cases hk1
   |out o=>cases hk1
   |done=>
    obtain ⟨r',τ2,τ3,gp',hr',ht',hk2⟩:=kn hC _ hk1 (St.eqv.refl τ1)
    cases r' with
    |out o=>exact ⟨o,.done,τ0,τ1,τ2,gp,gp',hk2,hr,rfl,ht,hr'⟩
    |_=>cases hk2
  cases e with
  |exit id=>cases hk
  |normal=>
   obtain ⟨out,r,τ0,τ1,τ2,gp,gp',h1,h2,h3,h4,h5⟩:=fin .nil hk
   refine ⟨out,h1,key fun w vs N0 ν δ ο hg us c' hcx hct a' w' g' D' hd hs=> ?_⟩
   simp only [bodyPostD,hd]
   exact KR hcx hg.dom .nil hct h2 h3 h4 h5 hs
  |ret=>
   obtain ⟨out,r,τ0,τ1,τ2,gp,gp',h1,h2,h3,h4,h5⟩:=fin .nil hk
   refine ⟨out,h1,key fun w vs N0 ν δ ο hg us c' hcx hct a' w' g' D' hd hs=> ?_⟩
   simp only [bodyPostD,hd]
   exact KR hcx hg.dom .nil hct h2 h3 h4 h5 hs
  |panic v=>
   simp only [kD] at hk
   split at hk
   case h_2=>cases hk
   rename_i t k n'
   obtain ⟨out,r,τ0,τ1,τ2,gp,gp',h1,h2,h3,h4,h5⟩:=fin (.err t k n') hk
   refine ⟨out,h1,key fun w vs N0 ν δ ο hg us c' hcx hct a' w' g' D' hd hs val hval=> ?_⟩
   simp only [bodyPostD,hd]
   cases hval with
   |iface _ u _ hu=>cases hu;exact KR hcx hg.dom (.err t k n') hct h2 h3 h4 h5 hs
end
end Go.Proofs.YtgajalidbabccaaGreatDoor.PI
namespace Go.Proofs.YtgajalidbabccaaGreatDoor
open Go PI
set_option maxRecDepth 100000
noncomputable section
noncomputable def zp:ET->TypeId
 | .C=>53
 | .T=>26
 | .B=>48
 | .I=>3
 | .F=>22
noncomputable def uA:ET->Nat
 | .C=>2
 | .T=>6
 | .B=>2
 | .I=>1
 | .F=>1
noncomputable def E3:ET->Nat
 | .C=>8
 | .T=>104
 | .B=>48
 | .I=>8
 | .F=>24
noncomputable def Ff (e:ET):Value:=((Tryz.prog.info? (zp e)).bind (·.zero)).getD undef
noncomputable def JX (e:ET):Bool:=match Tryz.prog.info? (zp e) with
 |some i=>i.zero.isSome&&(aU i.size (uA e)&&aU i.bytes (E3 e))&&aU (Ff e).cells.size (uA e)
 | .none=>false
theorem Qm (e:ET):JX e=true:=by cases e<;>kernel_rfl
theorem Zh: ∀t r,Bu t=some r->OZ Tryz.prog zp t r=true:=by
 intro t r h
 unfold Bu at h
 split at h<;>first|(injection h with h;subst h;kernel_rfl)|cases h
theorem alv: ∀t r e,Bu t=some r->r.keys=some e->e= .C:=by
 intro t r e h hk
 unfold Bu at h
 split at h<;>first|(injection h with h;subst h;cases hk;done)|(injection h with h;subst h;injection hk with hk;exact hk.symm)|cases h
theorem as9: ∀e cs y,Zd e cs=some y->cs.length=uA e/\cs.all PV.isCell=true/\ ∀ (k:Nat) p,cs[k]? =some p-> ∃q,(gg e y)[k]? =some q/\p.less q:=by
 have hC: ∀ {p:PU} {l},w_ p=some l-> ∃o,p= .sl (U:=UU) ET.C l o:=by
  intro p l h;unfold w_ at h;split at h<;>first|(injection h with h;subst h;exact ⟨_,rfl⟩)|cases h
 have hT: ∀ {p:PU} {l},BC p=some l-> ∃o,p= .sl (U:=UU) ET.T l o:=by
  intro p l h;unfold BC at h;split at h<;>first|(injection h with h;subst h;exact ⟨_,rfl⟩)|cases h
 have hB: ∀ {p:PU} {l},ID p=some l-> ∃o,p= .sl (U:=UU) ET.B l o:=by
  intro p l h;unfold ID at h;split at h<;>first|(injection h with h;subst h;exact ⟨_,rfl⟩)|cases h
 intro e cs y h
 cases e
 ·have h:OV cs=some y:=h
  unfold OV at h
  split at h
  case h_2=>cases h
  injection h with h;subst h
  refine ⟨rfl,rfl,fun k p hp=> ?_⟩
  match k,hp with
  |0,hp=>exact ⟨_,rfl,.inl (Option.some.inj hp).symm⟩
  |1,hp=>exact ⟨_,rfl,.inl (Option.some.inj hp).symm⟩
  |k+2,hp=>simp at hp
 ·have h:OY cs=some y:=h
  unfold OY at h
  split at h
  case h_2=>cases h
  split at h
  case h_2=>cases h
  rename_i h1 h2 h3
  injection h with h;subst h
  obtain ⟨o1,rfl⟩:=hC h1;obtain ⟨o2,rfl⟩:=hT h2;obtain ⟨o3,rfl⟩:=hB h3
  refine ⟨rfl,rfl,fun k p hp=> ?_⟩
  match k,hp with
  |0,hp=>exact ⟨_,rfl,.inl (Option.some.inj hp).symm⟩
  |1,hp=>exact ⟨_,rfl,.inl (Option.some.inj hp).symm⟩
  |2,hp=>exact ⟨_,rfl,.inl (Option.some.inj hp).symm⟩
  |3,hp=>exact ⟨_,rfl,.inr ⟨_,_,_,(Option.some.inj hp).symm,rfl⟩⟩
  |4,hp=>exact ⟨_,rfl,.inr ⟨_,_,_,(Option.some.inj hp).symm,rfl⟩⟩
  |5,hp=>exact ⟨_,rfl,.inr ⟨_,_,_,(Option.some.inj hp).symm,rfl⟩⟩
  |k+6,hp=>simp at hp
 ·have h:OU cs=some y:=h
  unfold OU at h
  split at h
  case h_2=>cases h
  split at h
  case h_2=>cases h
  rename_i h1 h2
  injection h with h;subst h
  obtain ⟨o1,rfl⟩:=hC h1;obtain ⟨o2,rfl⟩:=hT h2
  refine ⟨rfl,rfl,fun k p hp=> ?_⟩
  match k,hp with
  |0,hp=>exact ⟨_,rfl,.inr ⟨_,_,_,(Option.some.inj hp).symm,rfl⟩⟩
  |1,hp=>exact ⟨_,rfl,.inr ⟨_,_,_,(Option.some.inj hp).symm,rfl⟩⟩
  |k+2,hp=>simp at hp
 ·have h:OX cs=some y:=h
  unfold OX at h
  split at h
  case h_2=>cases h
  injection h with h;subst h
  refine ⟨rfl,rfl,fun k p hp=> ?_⟩
  match k,hp with
  |0,hp=>exact ⟨_,rfl,.inl (Option.some.inj hp).symm⟩
  |k+1,hp=>simp at hp
 ·have h:OW cs=some y:=h
  unfold OW at h
  split at h
  case h_2=>cases h
  obtain ⟨o1,rfl⟩:=hC h
  refine ⟨rfl,rfl,fun k p hp=> ?_⟩
  match k,hp with
  |0,hp=>exact ⟨_,rfl,.inr ⟨_,_,_,(Option.some.inj hp).symm,rfl⟩⟩
  |k+1,hp=>simp at hp
theorem ajC (e:ET): ∃i,Tryz.prog.info? (zp e)=some i/\i.zero=some (Ff e)/\i.size=uA e/\i.bytes=E3 e:=by
 have h:=Qm e
 unfold JX at h
 split at h
 ·rename_i i hi
  simp only [aZ] at h
  obtain ⟨⟨h1,h2,h3⟩,h4⟩:=h
  refine ⟨i,hi, ?_,by simpa using h2,by simpa using h3⟩
  unfold Ff
  rw [hi]
  obtain ⟨z,hz⟩:=Option.isSome_iff_exists.1 h1
  simp [hz]
 ·cases h
noncomputable def LL (o:Obj):Link VV Tryz.prog where
 gblk:=[(0,o)]
 etid:=zp
 esize:=uA
 ebytes:=E3
 ezero:=Ff
 einfo:=ajC
 zsize:=fun e=>by
  have h:=Qm e
  unfold JX at h
  split at h
  ·simp only [aZ] at h
   exact by simpa using h.2
  ·cases h
 epos:=fun e=>by cases e<;>decide
 broom:=fun e n h=>by
  have h':n<=1099511627776:=h
  cases e<;>simp only [E3,maxLen]<;>omega
 len:=fun e x=>by cases e<;>rfl
 small:=fun e=>by cases e<;>decide
 ecell':=fun e x=>by cases e<;>rfl
 toEl:=as9
 ty:=fun t r h=>Zg (Zh t r h)
 keyT:=fun t r e h hk=>by
  have he:=alv t r e h hk
  subst he
  obtain ⟨fs,h1,h2,_,h4,h5⟩:=(Zg (Zh 53 _ rfl)).isInts rfl
  exact ⟨⟨fs,h1,h2,h4,h5⟩,fun x y=>⟨_,by simp only [VV,gg,PV.eqvI];rfl⟩⟩
theorem FM:Tryz.prog.follows .mixedOrders=true:=by kernel_rfl
theorem sw {A B:Out UU->Prop} (h: ∃out,A out/\B out): ∃out,B out/\A out:=by obtain ⟨o,a,b⟩:=h;exact ⟨o,b,a⟩
theorem afQ {S:Type} {b:Bool} {x y:Option S} {v:S} (h:(bif b then x else y)=some v):x=some v\/y=some v:=by
 cases b
 ·exact .inr h
 ·exact .inl h
end
end Go.Proofs.YtgajalidbabccaaGreatDoor
namespace Go.Proofs.YtgajalidbabccaaGreatDoor
open Go PI
def U32 (s:Int):Prop:=0<=s/\s<4294967296
theorem U32.nat {s:Int} (h:U32 s): ∃n:Nat,n<4294967296/\s=n:=⟨s.toNat,by have:=h.1;have:=h.2;omega,by have:=h.1;omega⟩
theorem tI {n:Nat} (h:n<4294967296):(BitVec.ofInt 32 (n:Int)).toNat=n:=by
 grind
theorem oQ (n:Nat) (h:n<4294967296):af .u32 (n:Int)=n:=by
 grind [af,IntKind.bits,IntKind.signed]
theorem md (n:Nat) (h:n<18446744073709551616):af .u64 (n:Int)=n:=by
 grind [af,IntKind.bits,IntKind.signed]
theorem fW {n:Int} (h1: -9223372036854775808<=n) (h2:n<9223372036854775808):af .i64 n=n:=by
 grind [af,IntKind.bits,IntKind.signed]
theorem w9 {a b n:Nat} (h:a<2^n):a&&&b<2^n:=Nat.lt_of_le_of_lt Nat.and_le_left h
theorem oV {a b:Nat} (ha:a<4294967296) (hb:b<4294967296):bZ .and .u32 (a:Int) (b:Int)=((a&&&b:Nat):Int):=by
 have h1:=tI ha;have h2:=tI hb
 simp only [bZ]
 show af .u32 (((BitVec.ofInt 32 (a:Int))&&&(BitVec.ofInt 32 (b:Int))).toNat:Int)=_
 rw [BitVec.toNat_and,h1,h2]
 exact oQ _ (w9 (n:=32) ha)
theorem BD {a b:Nat} (ha:a<4294967296) (hb:b<4294967296):bZ .or .u32 (a:Int) (b:Int)=((a|||b:Nat):Int):=by
 have h1:=tI ha;have h2:=tI hb
 simp only [bZ]
 show af .u32 (((BitVec.ofInt 32 (a:Int))|||(BitVec.ofInt 32 (b:Int))).toNat:Int)=_
 rw [BitVec.toNat_or,h1,h2]
 exact oQ _ (Nat.or_lt_two_pow (n:=32) ha hb)
def gr (a b:Nat):Nat:=a^^^(a&&&b)
theorem qb (a b i:Nat):(gr a b).testBit i=(a.testBit i&& !b.testBit i):=by
 grind [gr]
theorem Aw {a b n:Nat} (h:a<2^n):gr a b<2^n:=Nat.xor_lt_two_pow h (w9 h)
theorem IE {a b:Nat} (ha:a<4294967296) (hb:b<4294967296):bZ .andNot .u32 (a:Int) (b:Int)=((gr a b:Nat):Int):=by
 have h1:=tI ha;have h2:=tI hb
 simp only [bZ]
 show af .u32 (((BitVec.ofInt 32 (a:Int))&&& ~~~(BitVec.ofInt 32 (b:Int))).toNat:Int)=_
 have e:((BitVec.ofInt 32 (a:Int))&&& ~~~(BitVec.ofInt 32 (b:Int))).toNat=gr a b:=by
  apply g6
  intro i
  rw [qb,BitVec.toNat_and,Nat.testBit_and,h1]
  by_cases hi:i<32
  ·grind
  ·have:a.testBit i=false:=Nat.testBit_lt_two_pow (Nat.lt_of_lt_of_le ha (by exact jH (n:=2) (by decide) (show 32<=i by omega)))
   grind
 rw [e]
 exact oQ _ (Aw (n:=32) ha)
theorem bR {α:Type} (p:Prop) [Decidable p] (x y:α):ac (decide p) x y=if p then x else y:=by
 grind [aj,ah]
theorem dX {α:Type} (c:Bool) (x y:α):ac c x y=if c=true then x else y:=by
 grind [ah,aj]
abbrev Fu (k:Nat):Prop:=4294967296<=k
theorem al {R S:Type} {k:Nat} (h:Fu k) (f:(R->OS S)->OS S) (g:R->OS S):ab k f g=f g:=Pq (by omega) f g
theorem bn {S:Type} {n m:Nat} (h:n+m<=1099511627776) (f:Unit->OS S):ag (aS 1099511627776 n m) f=f ():=by
 grind [aS]
theorem aR {α:Type} {l p r:List α} {x:α} (h:l=p++x::r) (hl:l.length<4611686018427387904):
  decide ((p.length:Int)<(l.length:Int))=true/\ai l (p.length:Int)=some x/\af .i64 ((p.length:Int)+1)=((p++[x]).length:Int)/\l=(p++[x])++r:=by
 subst h
 rw [List.length_append,cM] at hl
 refine ⟨decide_eq_true (by grind), ?_, ?_,by simp⟩
 all_goals grind [ai,af,IntKind.bits]
theorem cV {α:Type} {l p:List α} (h:l=p++[]):decide ((p.length:Int)<(l.length:Int))=false:=by
 grind
theorem aq {n m:Nat} (h:n<m): ∃q,m=q+1/\n<=q:=⟨m-1,by omega,by omega⟩
theorem mg {S:Type} (p:Prop) [Decidable p] (h:p) (f:Unit->OS S):ag (da p) f=f ():=by simp [da,h]
theorem zA {α:Type} (l:List α) (i:Nat):ai l (i:Int)=l[i]? :=by rfl
end Go.Proofs.YtgajalidbabccaaGreatDoor
namespace Go.Proofs.YtgajalidbabccaaGreatDoor
open Go PI
set_option maxRecDepth 100000
noncomputable section
variable {S:Type}
abbrev k_ (S:Type):=Tm->Int->(Int->OS S)->OS S
def CC (hd:k_ S) (k:Nat) (Y:Int->OS S) (t:Tm) (most i7:Int) (rec1:Int->Int->OS S) (rec2:Int->Int->OS S) (v5'' v8:Int):OS S:=ag (ai t.sys i7) fun x5=>ac (decide ((v8:Int)<(x5.kids.length:Int))) (ac (decide ((v5'':Int)<=most)) (ag (ai t.sys i7) fun x6=>ag (ai x6.kids v8) fun x7=>hd (ae x7) (af .i64 (most-v5'')) fun r8=>rec2 (af .i64 (v5''+r8)) (af .i64 (v8+1))) (rec1 v5'' (af .i64 (i7+1)))) (rec1 v5'' (af .i64 (i7+1)))
def n_ (hd:k_ S) (k:Nat) (Y:Int->OS S) (rec1:Int->Int->OS S) (t:Tm) (most i7:Int):Nat->Int->Int->OS S
 |0=>fun _ _=> .none
 |m+1=>fun v5'' v8=>CC hd k Y t most i7 rec1 (n_ hd k Y rec1 t most i7 m) v5'' v8
def xD (hd:k_ S) (k:Nat) (Y:Int->OS S) (t:Tm) (most:Int) (J2:Int->Int->Int->OS S) (rec1:Int->Int->OS S) (v5' i7:Int):OS S:=ac (decide ((i7:Int)<(t.sys.length:Int))) (ac (decide ((v5':Int)<=most)) (ag (ai t.sys i7) fun x3=>ac (decide (((x3.face.length:Int):Int)>most)) (Y (af .i64 (most+1))) (ag (ai t.sys i7) fun x4=>J2 i7 (af .i64 ((af .i64 (v5'+1))+(x4.face.length:Int))) 0)) (Y v5')) (Y v5')
def mJ (hd:k_ S) (k:Nat) (Y:Int->OS S) (t:Tm) (most:Int):Nat->Int->Int->OS S
 |0=>fun _ _=> .none
 |m+1=>fun v5' i7=>xD hd k Y t most (fun i7 v5'' v8=>n_ hd k Y (mJ hd k Y t most m) t most i7 k v5'' v8) (mJ hd k Y t most m) v5' i7
def xB (hd:k_ S) (k:Nat) (Y:Int->OS S) (t:Tm) (most:Int) (J1:Int->Int->OS S) (rec0:Int->Int->OS S) (v5 i6:Int):OS S:=ac (decide ((i6:Int)<(t.kids.length:Int))) (ac (decide ((v5:Int)<=most)) (ag (ai t.kids i6) fun x1=>hd (ae x1) (af .i64 (most-v5)) fun r2=>rec0 (af .i64 (v5+r2)) (af .i64 (i6+1))) (J1 v5 0)) (J1 v5 0)
def sc (hd:k_ S) (k:Nat) (Y:Int->OS S) (t:Tm) (most:Int):Nat->Int->Int->OS S
 |0=>fun _ _=> .none
 |m+1=>fun v5 i6=>xB hd k Y t most (fun v5' i7=>mJ hd k Y t most k v5' i7) (sc hd k Y t most m) v5 i6
def Of (hd:k_ S) (k:Nat) (Y:Int->OS S) (J0:Int->Int->OS S) (t:Tm) (most:Int):OS S:=ac (decide (((t.r.length:Int):Int)>most)) (Y (af .i64 (most+1))) (ac (decide (((t.name.size:Int):Int)>most)) (Y (af .i64 (most+1))) (J0 (af .i64 ((af .i64 (1+(t.r.length:Int)))+(t.name.size:Int))) 0))
def ky:Nat->Tm->Int->(Int->OS S)->OS S
 |0=>fun _ _ _=> .none
 |k+1=>fun t most Y=>Of (ky k) k Y (fun v5 i6=>sc (ky k) k Y t most k v5 i6) t most
def kA (k:Nat) (kind kid:Int) (Y:Int×Int->OS S):OS S:=ac (kind==4) (ac (kid==1) (Y (1,0)) (Y (0,0))) (ac (kind==7) (ac (kid==1) (Y (1,0)) (Y (0,0))) (ac (kind==5) (ac (kid==0) (Y (1,0)) (Y (0,0))) (ac (kind==22) (ac (kid==0) (Y (1,0)) (Y (0,0))) (ac (kind==27) (ac (kid==0) (Y (1,0)) (Y (0,0))) (ac (kind==11) (ac (kid==0) (Y (0,1)) (Y (0,0))) (ac (kind==12) (ac (kid==0) (Y (0,1)) (Y (0,0))) (ac (kind==14) (ac (kid==0) (Y (0,1)) (Y (0,0))) (Y (0,0)))))))))
abbrev f8 (S:Type):=Tm->Int->(Bool->OS S)->OS S
def zg (hd:f8 S) (k:Nat) (a_k:Tm) (p p' c0:Int) (Y:Bool->OS S):OS S:=hd (ae a_k) (af .i64 (c0-1)) fun r1=>Y r1
def C1 (hd:f8 S) (k:Nat) (Y:Bool->OS S) (c0:Int) (t:Tm) (v42:Int) (x4:(Br Tm)) (more9:Int) (rec1:Int->Int->OS S) (rec2:Int->OS S) (v49:Int):OS S:=ac (decide ((v49:Int)<(x4.kids.length:Int))) (ag (ai x4.kids v49) fun x5=>ab k (zg hd k (ae x5) 0 more9 c0) fun r6=>ac (!r6) (Y false) (rec2 (af .i64 (v49+1)))) (rec1 (af .i64 (v42+1)) more9)
def sx (hd:f8 S) (k:Nat) (Y:Bool->OS S) (rec1:Int->Int->OS S) (c0:Int) (t:Tm) (v42:Int) (x4:(Br Tm)) (more9:Int):Nat->Int->OS S
 |0=>fun _=> .none
 |m+1=>fun v49=>C1 hd k Y c0 t v42 x4 more9 rec1 (sx hd k Y rec1 c0 t v42 x4 more9 m) v49
def yb (hd:f8 S) (k:Nat) (Y:Bool->OS S) (c0:Int) (t:Tm) (J2:Int->(Br Tm)->Int->Int->OS S) (rec1:Int->Int->OS S) (v42 more9:Int):OS S:=ac (decide ((v42:Int)<(t.sys.length:Int))) (ag (ai t.sys v42) fun x4=>J2 v42 x4 more9 0) (Y true)
def mN (hd:f8 S) (k:Nat) (Y:Bool->OS S) (c0:Int) (t:Tm):Nat->Int->Int->OS S
 |0=>fun _ _=> .none
 |m+1=>fun v42 more9=>yb hd k Y c0 t (fun v42 x4 more9 v49=>sx hd k Y (mN hd k Y c0 t m) c0 t v42 x4 more9 k v49) (mN hd k Y c0 t m) v42 more9
def ya (hd:f8 S) (k:Nat) (Y:Bool->OS S) (c0:Int) (t:Tm) (J1:Int->Int->OS S) (rec0:Int->OS S) (v17:Int):OS S:=ac (decide ((v17:Int)<(t.kids.length:Int))) (ag (ai t.kids v17) fun x1=>ab k (kA k t.kind v17) fun r2=>ab k (zg hd k (ae x1) r2.1 r2.2 c0) fun r3=>ac (!r3) (Y false) (rec0 (af .i64 (v17+1)))) (ac (t.kind==15) (J1 0 1) (J1 0 0))
def vJ (hd:f8 S) (k:Nat) (Y:Bool->OS S) (c0:Int) (t:Tm):Nat->Int->OS S
 |0=>fun _=> .none
 |m+1=>fun v17=>ya hd k Y c0 t (fun v42 more9=>mN hd k Y c0 t k v42 more9) (vJ hd k Y c0 t m) v17
def ON (hd:f8 S) (k:Nat) (Y:Bool->OS S) (J0:Int->OS S) (t:Tm) (c0:Int):OS S:=J0 0
def Jy (hd:f8 S) (k:Nat) (t:Tm) (c0:Int) (Y:Bool->OS S):OS S:=ON hd k Y (fun v17=>vJ hd k Y c0 t k v17) t c0
def Y6 (hd:f8 S) (k:Nat) (Y:Bool->OS S) (t:Tm) (left:Int):OS S:=ac (decide ((left:Int)>0)) (ab k (Jy hd k (ae t) left) fun r1=>Y r1) (Y false)
def mw:Nat->Tm->Int->(Bool->OS S)->OS S
 |0=>fun _ _ _=> .none
 |k+1=>fun t left Y=>Y6 (mw k) k Y t left
abbrev gw (S:Type):=Tm->Int->(Bool×Int->OS S)->OS S
def ui (hd:gw S) (k:Nat) (t:Tm) (c0:Int) (Y:Bool×Int->OS S):OS S:=ac (decide ((af .i64 (c0-1):Int)>=0)) (hd (ae t) (af .i64 (c0-1)) fun r1=>Y (r1.1,r1.2)) (Y (false,af .i64 (c0-1)))
def zh (hd:gw S) (k:Nat) (a_k:Tm) (p p' c1:Int) (Y:Bool×Int->OS S):OS S:=ab k (ui hd k (ae a_k) c1) fun r1=>Y (r1.1,r1.2)
def CZ (hd:gw S) (k:Nat) (Y:Bool×Int->OS S) (t:Tm) (v42:Int) (x4:(Br Tm)) (more9:Int) (rec1:Int->Int->Int->OS S) (rec2:Int->Int->OS S) (e1_0'' v49:Int):OS S:=ac (decide ((v49:Int)<(x4.kids.length:Int))) (ag (ai x4.kids v49) fun x5=>ab k (zh hd k (ae x5) 0 more9 e1_0'') fun r6=>ac (!r6.1) (Y (false,r6.2)) (rec2 r6.2 (af .i64 (v49+1)))) (rec1 e1_0'' (af .i64 (v42+1)) more9)
def ou (hd:gw S) (k:Nat) (Y:Bool×Int->OS S) (rec1:Int->Int->Int->OS S) (t:Tm) (v42:Int) (x4:(Br Tm)) (more9:Int):Nat->Int->Int->OS S
 |0=>fun _ _=> .none
 |m+1=>fun e1_0'' v49=>CZ hd k Y t v42 x4 more9 rec1 (ou hd k Y rec1 t v42 x4 more9 m) e1_0'' v49
def xY (hd:gw S) (k:Nat) (Y:Bool×Int->OS S) (t:Tm) (J2:Int->(Br Tm)->Int->Int->Int->OS S) (rec1:Int->Int->Int->OS S) (e1_0' v42 more9:Int):OS S:=ac (decide ((v42:Int)<(t.sys.length:Int))) (ag (ai t.sys v42) fun x4=>J2 v42 x4 more9 e1_0' 0) (Y (true,e1_0'))
def lJ (hd:gw S) (k:Nat) (Y:Bool×Int->OS S) (t:Tm):Nat->Int->Int->Int->OS S
 |0=>fun _ _ _=> .none
 |m+1=>fun e1_0' v42 more9=>xY hd k Y t (fun v42 x4 more9 e1_0'' v49=>ou hd k Y (lJ hd k Y t m) t v42 x4 more9 k e1_0'' v49) (lJ hd k Y t m) e1_0' v42 more9
def xX (hd:gw S) (k:Nat) (Y:Bool×Int->OS S) (t:Tm) (J1:Int->Int->Int->OS S) (rec0:Int->Int->OS S) (gW v17:Int):OS S:=ac (decide ((v17:Int)<(t.kids.length:Int))) (ag (ai t.kids v17) fun x1=>ab k (kA k t.kind v17) fun r2=>ab k (zh hd k (ae x1) r2.1 r2.2 gW) fun r3=>ac (!r3.1) (Y (false,r3.2)) (rec0 r3.2 (af .i64 (v17+1)))) (ac (t.kind==15) (J1 gW 0 1) (J1 gW 0 0))
def sr (hd:gw S) (k:Nat) (Y:Bool×Int->OS S) (t:Tm):Nat->Int->Int->OS S
 |0=>fun _ _=> .none
 |m+1=>fun gW v17=>xX hd k Y t (fun e1_0' v42 more9=>lJ hd k Y t k e1_0' v42 more9) (sr hd k Y t m) gW v17
def OL (hd:gw S) (k:Nat) (Y:Bool×Int->OS S) (J0:Int->Int->OS S) (t:Tm) (c1:Int):OS S:=J0 c1 0
def jj:Nat->Tm->Int->(Bool×Int->OS S)->OS S
 |0=>fun _ _ _=> .none
 |k+1=>fun t c1 Y=>OL (jj k) k Y (fun gW v17=>sr (jj k) k Y t k gW v17) t c1
def EP (k:Nat) (t:Tm) (most:Int) (Y:Bool->OS S):OS S:=ab k (ui (jj k) k (ae t) most) fun r1=>Y r1.1
def EO (k:Nat) (t:Tm) (Y:Int->OS S):OS S:=mw k (ae t) 200 fun r1=>ac (!r1) (Y 62) (ab k (EP k (ae t) 20000) fun r2=>ac (!r2) (Y 221) (Y 0))
def EJ (k:Nat) (kind:Int) (Y:Int->OS S):OS S:=ac (kind==1) (Y 0) (ac (kind==2) (Y 0) (ac (kind==3) (Y 0) (ac (kind==19) (Y 0) (ac (kind==20) (Y 0) (ac (kind==24) (Y 0) (ac (kind==25) (Y 0) (ac (kind==21) (Y 0) (ac (kind==5) (Y 1) (ac (kind==9) (Y 1) (ac (kind==10) (Y 1) (ac (kind==23) (Y 1) (ac (kind==12) (Y 1) (ac (kind==16) (Y 1) (ac (kind==17) (Y 1) (ac (kind==18) (Y 1) (ac (kind==26) (Y 1) (ac (kind==4) (Y 2) (ac (kind==7) (Y 2) (ac (kind==6) (Y 2) (ac (kind==8) (Y 2) (ac (kind==14) (Y 2) (ac (kind==15) (Y 2) (ac (kind==28) (Y 2) (ac (kind==11) (Y 3) (ac (kind==13) (Y 3) (ac (kind==22) (Y 4) (ac (kind==27) (Y 5) (Y (-1)))))))))))))))))))))))))))))
def po (k:Nat) (kind:Int) (Y:Int->OS S):OS S:=ac (kind==15) (Y 1) (ac (kind==17) (Y 1) (ac (kind==18) (Y 1) (ac (kind==16) (Y 2) (Y 0))))
def IQ (k:Nat) (Y:Bool->OS S) (s:BA) (v8:Int) (x1:UInt8) (rec0:Int->OS S) (letter5:Bool):OS S:=ac (!letter5) (ac (v8==0) (Y false) (ac (decide (((x1.toNat:Int):Int)<48)) (Y false) (ac (decide (((x1.toNat:Int):Int)>57)) (Y false) (rec0 (af .i64 (v8+1)))))) (rec0 (af .i64 (v8+1)))
def FF (k:Nat) (Y:Bool->OS S) (rec0:Int->OS S) (s:BA) (v8:Int) (x1:UInt8):Nat->Bool->OS S
 |0=>fun _=> .none
 |_+1=>fun letter5=>IQ k Y s v8 x1 rec0 letter5
def yg (k:Nat) (Y:Bool->OS S) (s:BA) (J1:Int->UInt8->Bool->OS S) (rec0:Int->OS S) (v8:Int):OS S:=ac (decide ((v8:Int)<(s.size:Int))) (ag (ai s.data.toList v8) fun x1=>ac (decide (((x1.toNat:Int):Int)>=97)) (ac (decide (((x1.toNat:Int):Int)<=122)) (J1 v8 x1 true) (ac (decide (((x1.toNat:Int):Int)>=65)) (ac (decide (((x1.toNat:Int):Int)<=90)) (J1 v8 x1 true) (J1 v8 x1 ((x1.toNat:Int)==95))) (J1 v8 x1 ((x1.toNat:Int)==95)))) (ac (decide (((x1.toNat:Int):Int)>=65)) (ac (decide (((x1.toNat:Int):Int)<=90)) (J1 v8 x1 true) (J1 v8 x1 ((x1.toNat:Int)==95))) (J1 v8 x1 ((x1.toNat:Int)==95)))) (Y (!(s==au)))
def sD (k:Nat) (Y:Bool->OS S) (s:BA):Nat->Int->OS S
 |0=>fun _=> .none
 |m+1=>fun v8=>yg k Y s (fun v8 x1 letter5=>FF k Y (sD k Y s m) s v8 x1 k letter5) (sD k Y s m) v8
def OQ (k:Nat) (Y:Bool->OS S) (J0:Int->OS S) (s:BA):OS S:=J0 0
def EM (k:Nat) (s:BA) (Y:Bool->OS S):OS S:=OQ k Y (fun v8=>sD k Y s k v8) s
def t7 (k:Nat) (s:Int) (Y:Bool->OS S):OS S:=Y ((bZ .andNot .u32 s 16777215)==0)
def yp (k:Nat) (c:Cl) (Y:Bool->OS S):OS S:=ab k (t7 k c.pos) fun r1=>ac (r1) (ab k (t7 k c.neg) fun r2=>Y r2) (Y false)
def tO (k:Nat) (a b:Cl) (Y:Cl->OS S):OS S:=Y (Cl.mk (bZ .or .u32 a.pos b.pos) (bZ .or .u32 a.neg b.neg))
def Dl (k:Nat) (a b:Cl) (Y:Bool->OS S):OS S:=ab k (tO k a b) fun r1=>Y ((r1.pos==a.pos)&&((r1.neg==a.neg)&&true))
def Dp (k:Nat) (d c0:Cl) (Y:Bool->OS S):OS S:=ac (!((c0.pos==d.pos)&&((c0.neg==d.neg)&&true))) (ab k (Dl k c0 d) fun r1=>Y r1) (Y false)
def CV (k:Nat) (Y:Int->OS S) (c0:Cl) (s:LC) (rec0:Int->OS S) (v8:Int):OS S:=ac (decide ((v8:Int)<(s.length:Int))) (ag (ai s v8) fun x1=>ab k (Dp k x1 c0) fun r2=>ac (r2) (Y v8) (rec0 (af .i64 (v8+1)))) (Y (-1))
def vF (k:Nat) (Y:Int->OS S) (c0:Cl) (s:LC):Nat->Int->OS S
 |0=>fun _=> .none
 |m+1=>fun v8=>CV k Y c0 s (vF k Y c0 s m) v8
def OH (k:Nat) (Y:Int->OS S) (J0:Int->OS S) (s:LC) (c0:Cl):OS S:=J0 0
def Jw (k:Nat) (s:LC) (c0:Cl) (Y:Int->OS S):OS S:=OH k Y (fun v8=>vF k Y c0 s k v8) s c0
def Ju (k:Nat) (s:LC) (c0:Cl) (Y:Bool->OS S):OS S:=ab k (Jw k s c0) fun r1=>Y (decide ((r1:Int)>=0))
def Dm (k:Nat) (c:Cl) (c0:LC) (Y:Bool->OS S):OS S:=ab k (Ju k c0 c) fun r1=>Y r1
def BF (k:Nat) (Y:LC×Int->OS S) (b5_0:LC) (rec1:Int->(LC)->OS S) (v36:Int) (kept9:LC):OS S:=ac (decide ((v36:Int)<(b5_0.length:Int))) (ag (ai b5_0 v36) fun x4=>ab k (Dm k x4 b5_0) fun r5=>ac (!r5) (ag (aS 1099511627776 kept9.length [x4].length) fun x6=>rec1 (af .i64 (v36+1)) (kept9++[x4])) (rec1 (af .i64 (v36+1)) kept9)) (ac (decide (((kept9.length:Int):Int)>64)) (Y (([]:LC),3)) (Y (sortCl kept9,0)))
def rN (k:Nat) (Y:LC×Int->OS S) (b5_0:LC):Nat->Int->(LC)->OS S
 |0=>fun _ _=> .none
 |m+1=>fun v36 kept9=>BF k Y b5_0 (rN k Y b5_0 m) v36 kept9
def xb (k:Nat) (Y:LC×Int->OS S) (l:LC) (J1:(LC)->Int->(LC)->OS S) (rec0:(List (Cl×Bool))->(LC)->Int->OS S) (gS:List (Cl×Bool)) (b5_0:LC) (v15:Int):OS S:=ac (decide ((v15:Int)<(l.length:Int))) (ag (ai l v15) fun x1=>ab k (yp k x1) fun r2=>ac (!r2) (Y (([]:LC),2)) (ac (!((gK VV ET.C gS x1).getD false)) (ag (aS 1099511627776 b5_0.length [x1].length) fun x3=>rec0 (jr VV ET.C gS x1 true) (b5_0++[x1]) (af .i64 (v15+1))) (rec0 gS b5_0 (af .i64 (v15+1))))) (J1 b5_0 0 ([]:LC))
def uK (k:Nat) (Y:LC×Int->OS S) (l:LC):Nat->(List (Cl×Bool))->(LC)->Int->OS S
 |0=>fun _ _ _=> .none
 |m+1=>fun gS b5_0 v15=>xb k Y l (fun b5_0 v36 kept9=>rN k Y b5_0 k v36 kept9) (uK k Y l m) gS b5_0 v15
def Np (k:Nat) (Y:LC×Int->OS S) (J0:(List (Cl×Bool))->(LC)->Int->OS S) (l:LC):OS S:=J0 ([]:List (Cl×Bool)) ([]:LC) 0
def ko (k:Nat) (l:LC) (Y:LC×Int->OS S):OS S:=Np k Y (fun gS b5_0 v15=>uK k Y l k gS b5_0 v15) l
def CU (k:Nat) (Y:Bool->OS S) (s1 s2:LC) (rec0:Int->OS S) (v13:Int):OS S:=ac (decide ((v13:Int)<(s1.length:Int))) (ag (ai s1 v13) fun x1=>ag (ai s2 v13) fun x2=>ac (!((x1.pos==x2.pos)&&((x1.neg==x2.neg)&&true))) (Y false) (rec0 (af .i64 (v13+1)))) (Y true)
def vE (k:Nat) (Y:Bool->OS S) (s1 s2:LC):Nat->Int->OS S
 |0=>fun _=> .none
 |m+1=>fun v13=>CU k Y s1 s2 (vE k Y s1 s2 m) v13
def OG (k:Nat) (Y:Bool->OS S) (J0:Int->OS S) (s1 s2:LC):OS S:=ac (!((s1.length:Int)==(s2.length:Int))) (Y false) (J0 0)
def EI (k:Nat) (s1 s2:LC) (Y:Bool->OS S):OS S:=OG k Y (fun v13=>vE k Y s1 s2 k v13) s1 s2
def lm (k:Nat) (f:LC) (Y:Bool->OS S):OS S:=ab k (ko k f) fun r1=>ac (r1.2==0) (ab k (EI k r1.1 f) fun r2=>Y r2) (Y false)
def rl (k:Nat) (i:Int) (Y:Bool->OS S):OS S:=ac (decide ((i:Int)>=0)) (Y (decide ((i:Int)<24))) (Y false)
def nB (k:Nat) (s i:Int) (Y:Int->OS S):OS S:=ab k (rl k i) fun r1=>ac (!r1) (Y (bZ .and .u32 s 16777215)) (ag (da (0<=(af .u64 i))) fun x2=>Y (bZ .andNot .u32 (bZ .and .u32 s 16777215) (af .u32 (1*2^min (cW (af .u64 i)) 32))))
def BS (k:Nat) (Y:Int->OS S) (f:LC) (rec0:Int->Int->OS S) (s3 v8:Int):OS S:=ac (decide ((v8:Int)<(f.length:Int))) (ag (ai f v8) fun x1=>rec0 (bZ .or .u32 s3 (bZ .or .u32 x1.pos x1.neg)) (af .i64 (v8+1))) (ab k (nB k s3 (-1)) fun r2=>Y r2)
def uQ (k:Nat) (Y:Int->OS S) (f:LC):Nat->Int->Int->OS S
 |0=>fun _ _=> .none
 |m+1=>fun s3 v8=>BS k Y f (uQ k Y f m) s3 v8
def NC (k:Nat) (Y:Int->OS S) (J0:Int->Int->OS S) (f:LC):OS S:=J0 0 0
def tT (k:Nat) (f:LC) (Y:Int->OS S):OS S:=NC k Y (fun s3 v8=>uQ k Y f k s3 v8) f
def pq (k:Nat) (f:LC) (dims:Int) (Y:Bool->OS S):OS S:=ac (decide ((dims:Int)>=24)) (Y true) (ab k (tT k f) fun r1=>ag (da (0<=(af .u64 dims))) fun x2=>Y ((Int.fdiv r1 (2^min (cW (af .u64 dims)) 32))==0))
def yo (k:Nat) (c:Cl) (Y:Bool->OS S):OS S:=Y (!((bZ .and .u32 c.pos c.neg)==0))
def CW (k:Nat) (Y:Int->OS S) (s:LC) (rec0:Int->OS S) (v8:Int):OS S:=ac (decide ((v8:Int)<(s.length:Int))) (ag (ai s v8) fun x1=>ab k (yo k x1) fun r2=>ac (r2) (Y v8) (rec0 (af .i64 (v8+1)))) (Y (-1))
def vG (k:Nat) (Y:Int->OS S) (s:LC):Nat->Int->OS S
 |0=>fun _=> .none
 |m+1=>fun v8=>CW k Y s (vG k Y s m) v8
def OI (k:Nat) (Y:Int->OS S) (J0:Int->OS S) (s:LC):OS S:=J0 0
def Jx (k:Nat) (s:LC) (Y:Int->OS S):OS S:=OI k Y (fun v8=>vG k Y s k v8) s
def Jv (k:Nat) (s:LC) (Y:Bool->OS S):OS S:=ab k (Jx k s) fun r1=>Y (decide ((r1:Int)>=0))
def tQ (k:Nat) (f:LC) (Y:Bool->OS S):OS S:=ab k (lm k f) fun r1=>ac (r1) (ab k (Jv k f) fun r2=>Y (!r2)) (Y false)
def C4 (k:Nat) (Y:Bool->OS S) (t:Tm) (dims:Int) (rec1:Int->OS S) (v109:Int):OS S:=ac (decide ((v109:Int)<(t.sys.length:Int))) (ag (ai t.sys v109) fun x12=>ab k (po k t.kind) fun r13=>ac (!((x12.kids.length:Int)==r13)) (Y false) (ab k (tQ k x12.face) fun r14=>ac (!r14) (Y false) (ab k (pq k x12.face dims) fun r15=>ac (!r15) (Y false) (rec1 (af .i64 (v109+1)))))) (Y ((t.r.length:Int)==0))
def ox (k:Nat) (Y:Bool->OS S) (t:Tm) (dims:Int):Nat->Int->OS S
 |0=>fun _=> .none
 |m+1=>fun v109=>C4 k Y t dims (ox k Y t dims m) v109
def yh (k:Nat) (Y:Bool->OS S) (t:Tm) (vars dims:Int) (J1:Int->OS S):OS S:=ac (t.kind==1) (ac ((t.r.length:Int)==0) (ac (decide ((t.n:Int)>=0)) (ac (decide ((vars:Int)<0)) (Y true) (Y (decide ((t.n:Int)<vars)))) (Y false)) (Y false)) (ac (t.kind==2) (ac ((t.r.length:Int)==0) (ab k (EM k t.name) fun r3=>Y r3) (Y false)) (ac (t.kind==13) (ab k (lm k t.r) fun r4=>ac (r4) (ab k (pq k t.r dims) fun r5=>Y r5) (Y false)) (ac (t.kind==21) (ab k (lm k t.r) fun r6=>ac (r6) (ab k (pq k t.r dims) fun r7=>Y r7) (Y false)) (ac (t.kind==26) (ab k (lm k t.r) fun r8=>ac (r8) (ab k (pq k t.r dims) fun r9=>Y r9) (Y false)) (ac (t.kind==14) (ab k (tQ k t.r) fun r10=>ac (r10) (ab k (pq k t.r dims) fun r11=>Y r11) (Y false)) (J1 0))))))
def FG (k:Nat) (Y:Bool->OS S) (t:Tm) (vars dims:Int):Nat->OS S
 |0=> .none
 |_+1=>yh k Y t vars dims (fun v109=>ox k Y t dims k v109)
def OR (k:Nat) (Y:Bool->OS S) (J0:OS S) (t:Tm) (vars dims:Int):OS S:=ab k (EJ k t.kind) fun r1=>ac (!(r1==(t.kids.length:Int))) (Y false) (ac (!(t.kind==1)) (ac (!(t.n==0)) (Y false) (ac (!(t.kind==2)) (ac (!(t.name==au)) (Y false) (ab k (po k t.kind) fun r2=>ac (r2==0) (ac (decide (((t.sys.length:Int):Int)>0)) (Y false) (J0)) (J0))) (ab k (po k t.kind) fun r16=>ac (r16==0) (ac (decide (((t.sys.length:Int):Int)>0)) (Y false) (J0)) (J0)))) (ac (!(t.kind==2)) (ac (!(t.name==au)) (Y false) (ab k (po k t.kind) fun r17=>ac (r17==0) (ac (decide (((t.sys.length:Int):Int)>0)) (Y false) (J0)) (J0))) (ab k (po k t.kind) fun r18=>ac (r18==0) (ac (decide (((t.sys.length:Int):Int)>0)) (Y false) (J0)) (J0))))
def zf (k:Nat) (t:Tm) (vars dims:Int) (Y:Bool->OS S):OS S:=OR k Y (FG k Y t vars dims k) t vars dims
abbrev f7 (S:Type):=Tm->Int->Int->Bool->(Bool->OS S)->OS S
def zd (hd:f7 S) (k:Nat) (a_k:Tm) (v d c0 c1:Int) (c2:Bool) (Y:Bool->OS S):OS S:=ac (decide ((c0:Int)<0)) (hd (ae a_k) (af .i64 (c0+0)) (af .i64 (c1+d)) c2 fun r1=>Y r1) (hd (ae a_k) (af .i64 (c0+v)) (af .i64 (c1+d)) c2 fun r2=>Y r2)
def C0 (hd:f7 S) (k:Nat) (Y:Bool->OS S) (c0 c1:Int) (c2:Bool) (t:Tm) (v42:Int) (x4:(Br Tm)) (more9:Int) (rec1:Int->Int->OS S) (rec2:Int->OS S) (v49:Int):OS S:=ac (decide ((v49:Int)<(x4.kids.length:Int))) (ag (ai x4.kids v49) fun x5=>ab k (zd hd k (ae x5) 0 more9 c0 c1 c2) fun r6=>ac (!r6) (Y false) (rec2 (af .i64 (v49+1)))) (rec1 (af .i64 (v42+1)) more9)
def p8 (hd:f7 S) (k:Nat) (Y:Bool->OS S) (rec1:Int->Int->OS S) (c0 c1:Int) (c2:Bool) (t:Tm) (v42:Int) (x4:(Br Tm)) (more9:Int):Nat->Int->OS S
 |0=>fun _=> .none
 |m+1=>fun v49=>C0 hd k Y c0 c1 c2 t v42 x4 more9 rec1 (p8 hd k Y rec1 c0 c1 c2 t v42 x4 more9 m) v49
def x_ (hd:f7 S) (k:Nat) (Y:Bool->OS S) (c0 c1:Int) (c2:Bool) (t:Tm) (J2:Int->(Br Tm)->Int->Int->OS S) (rec1:Int->Int->OS S) (v42 more9:Int):OS S:=ac (decide ((v42:Int)<(t.sys.length:Int))) (ag (ai t.sys v42) fun x4=>J2 v42 x4 more9 0) (Y true)
def lK (hd:f7 S) (k:Nat) (Y:Bool->OS S) (c0 c1:Int) (c2:Bool) (t:Tm):Nat->Int->Int->OS S
 |0=>fun _ _=> .none
 |m+1=>fun v42 more9=>x_ hd k Y c0 c1 c2 t (fun v42 x4 more9 v49=>p8 hd k Y (lK hd k Y c0 c1 c2 t m) c0 c1 c2 t v42 x4 more9 k v49) (lK hd k Y c0 c1 c2 t m) v42 more9
def xZ (hd:f7 S) (k:Nat) (Y:Bool->OS S) (c0 c1:Int) (c2:Bool) (t:Tm) (J1:Int->Int->OS S) (rec0:Int->OS S) (v17:Int):OS S:=ac (decide ((v17:Int)<(t.kids.length:Int))) (ag (ai t.kids v17) fun x1=>ab k (kA k t.kind v17) fun r2=>ab k (zd hd k (ae x1) r2.1 r2.2 c0 c1 c2) fun r3=>ac (!r3) (Y false) (rec0 (af .i64 (v17+1)))) (ac (t.kind==15) (J1 0 1) (J1 0 0))
def su (hd:f7 S) (k:Nat) (Y:Bool->OS S) (c0 c1:Int) (c2:Bool) (t:Tm):Nat->Int->OS S
 |0=>fun _=> .none
 |m+1=>fun v17=>xZ hd k Y c0 c1 c2 t (fun v42 more9=>lK hd k Y c0 c1 c2 t k v42 more9) (su hd k Y c0 c1 c2 t m) v17
def OM (hd:f7 S) (k:Nat) (Y:Bool->OS S) (J0:Int->OS S) (t:Tm) (c0 c1:Int) (c2:Bool):OS S:=J0 0
def EK (hd:f7 S) (k:Nat) (t:Tm) (c0 c1:Int) (c2:Bool) (Y:Bool->OS S):OS S:=OM hd k Y (fun v17=>su hd k Y c0 c1 c2 t k v17) t c0 c1 c2
def Y5 (hd:f7 S) (k:Nat) (Y:Bool->OS S) (t:Tm) (vars dims:Int) (bound:Bool):OS S:=ac (bound) (ac (decide ((dims:Int)>24)) (Y false) (ab k (zf k (ae t) vars dims) fun r1=>ac (!r1) (Y false) (ab k (EK hd k (ae t) vars dims bound) fun r2=>Y r2))) (ab k (zf k (ae t) vars dims) fun r3=>ac (!r3) (Y false) (ab k (EK hd k (ae t) vars dims bound) fun r4=>Y r4))
def kB:Nat->Tm->Int->Int->Bool->(Bool->OS S)->OS S
 |0=>fun _ _ _ _ _=> .none
 |k+1=>fun t vars dims bound Y=>Y5 (kB k) k Y t vars dims bound
def ji (k:Nat) (t:Tm) (Y:Int->OS S):OS S:=ab k (EO k (ae t)) fun r1=>ac (!(r1==0)) (Y r1) (kB k (ae t) (-1) 24 false fun r2=>ac (!r2) (Y 100) (Y 0))
abbrev iG (S:Type):=Tm->(Tm->OS S)->OS S
def CY (hd:iG S) (k:Nat) (Y:LT->OS S) (l:LT) (rec0:(LT)->Int->OS S) (out3:LT) (v8:Int):OS S:=ac (decide ((v8:Int)<(l.length:Int))) (ag (ai l v8) fun x1=>hd (ae x1) fun r2=>ag (aS 1099511627776 out3.length [(ae r2)].length) fun x3=>rec0 (out3++[(ae r2)]) (af .i64 (v8+1))) (Y out3)
def vI (hd:iG S) (k:Nat) (Y:LT->OS S) (l:LT):Nat->(LT)->Int->OS S
 |0=>fun _ _=> .none
 |m+1=>fun out3 v8=>CY hd k Y l (vI hd k Y l m) out3 v8
def OK (hd:iG S) (k:Nat) (Y:LT->OS S) (J0:(LT)->Int->OS S) (l:LT):OS S:=J0 ([]:LT) 0
def ze (hd:iG S) (k:Nat) (l:LT) (Y:LT->OS S):OS S:=OK hd k Y (fun out3 v8=>vI hd k Y l k out3 v8) l
def CX (hd:iG S) (k:Nat) (Y:Tm->OS S) (t:Tm) (r1:LC) (r2:LT) (rec0:(LB)->Int->OS S) (b3_5:LB) (v22:Int):OS S:=ac (decide ((v22:Int)<(t.sys.length:Int))) (ag (ai t.sys v22) fun x3=>vY x3.face fun r4=>ab k (ze hd k x3.kids) fun r5=>ag (aS 1099511627776 b3_5.length [(Br.mk r4 r5)].length) fun x6=>rec0 (b3_5++[(Br.mk r4 r5)]) (af .i64 (v22+1))) (Y (Tm.mk t.kind t.n t.name r1 r2 b3_5))
def vH (hd:iG S) (k:Nat) (Y:Tm->OS S) (t:Tm) (r1:LC) (r2:LT):Nat->(LB)->Int->OS S
 |0=>fun _ _=> .none
 |m+1=>fun b3_5 v22=>CX hd k Y t r1 r2 (vH hd k Y t r1 r2 m) b3_5 v22
def OJ (hd:iG S) (k:Nat) (Y:Tm->OS S) (J0:(LC)->(LT)->(LB)->Int->OS S) (t:Tm):OS S:=vY t.r fun r1=>ab k (ze hd k t.kids) fun r2=>J0 r1 r2 ([]:LB) 0
def fc:Nat->Tm->(Tm->OS S)->OS S
 |0=>fun _ _=> .none
 |k+1=>fun t Y=>OJ (fc k) k Y (fun r1 r2 b3_5 v22=>vH (fc k) k Y t r1 r2 k b3_5 v22) t
def jh (k:Nat) (t:Tm) (a_e c0:Int) (Y:Tm×Int->OS S):OS S:=ac (c0==0) (ac (!(a_e==0)) (Y ((Tm.mk 0 0 au [] [] []),a_e)) (Y ((ae t),a_e))) (ac (!(c0==0)) (Y ((Tm.mk 0 0 au [] [] []),c0)) (Y ((ae t),c0)))
def eb (k:Nat) (c0:Int) (Y:Bool->OS S):OS S:=Y (c0==0)
def jg (k:Nat) (t:Tm) (c0:Int) (Y:Tm×Bool×Int×Int->OS S):OS S:=ab k (ji k (ae t)) fun r1=>ab k (jh k (ae t) r1 c0) fun r2=>fc k (ae r2.1) fun r3=>ab k (eb k r2.2) fun r4=>Y ((ae r3),r4,r2.2,r2.2)
def BY (k:Nat) (Y:Int->OS S) (l:List (LC)) (rec0:Int->OS S) (v7:Int):OS S:=ac (decide ((v7:Int)<(l.length:Int))) (ag (ai l v7) fun x1=>ab k (lm k x1) fun r2=>ac (!r2) (Y 2) (rec0 (af .i64 (v7+1)))) (Y 0)
def uV (k:Nat) (Y:Int->OS S) (l:List (LC)):Nat->Int->OS S
 |0=>fun _=> .none
 |m+1=>fun v7=>BY k Y l (uV k Y l m) v7
def NI (k:Nat) (Y:Int->OS S) (J0:Int->OS S) (l:List (LC)):OS S:=J0 0
def tV (k:Nat) (l:List (LC)) (Y:Int->OS S):OS S:=NI k Y (fun v7=>uV k Y l k v7) l
def yy (k:Nat) (Y:LC->OS S):OS S:=Y ([]:LC)
def t8 (k:Nat) (i:Int) (Y:Int->OS S):OS S:=ag (da (0<=(af .u64 (if 24<i then 24 else i)))) fun x1=>Y (af .u32 (af .u64 ((af .u64 (1*2^min (cW (af .u64 (if 24<i then 24 else i))) 64))-1)))
def pe (k:Nat) (s a_from a_by:Int) (Y:Int×Int->OS S):OS S:=ac (decide ((a_from:Int)<0)) (Y (0,2)) (ac (decide ((a_by:Int)<0)) (Y (0,2)) (ab k (t8 k a_from) fun r1=>ab k (t8 k a_from) fun r2=>ac ((af .u64 (bZ .andNot .u32 (bZ .and .u32 s 16777215) r2))==0) (Y (bZ .and .u32 (bZ .and .u32 s 16777215) r1,0)) (ac (decide ((a_by:Int)>=24)) (Y (0,10)) (ag (da (0<=(af .u64 a_by))) fun x3=>ac (decide ((af .u64 ((af .u64 (bZ .andNot .u32 (bZ .and .u32 s 16777215) r2))*2^min (cW (af .u64 a_by)) 64):Int)>16777215)) (Y (0,10)) (ag (da (0<=(af .u64 a_by))) fun x4=>Y (bZ .or .u32 (bZ .and .u32 (bZ .and .u32 s 16777215) r1) (af .u32 (af .u64 ((af .u64 (bZ .andNot .u32 (bZ .and .u32 s 16777215) r2))*2^min (cW (af .u64 a_by)) 64))),0))))))
def Dq (k:Nat) (c:Cl) (a_from a_by:Int) (Y:Cl×Int->OS S):OS S:=ab k (yp k c) fun r1=>ac (!r1) (Y ((Cl.mk 0 0),2)) (ab k (pe k c.pos a_from a_by) fun r2=>ac (!(r2.2==0)) (Y ((Cl.mk 0 0),r2.2)) (ab k (pe k c.neg a_from a_by) fun r3=>ac (!(r3.2==0)) (Y ((Cl.mk 0 0),r3.2)) (Y ((Cl.mk r2.1 r3.1),0))))
def Jg (k:Nat) (a_have:LC) (c:Cl) (c0 c1:Int) (Y:LC×Int->OS S):OS S:=ab k (Dq k c c0 c1) fun r1=>ag (aS 1099511627776 a_have.length [r1.1].length) fun x2=>Y (a_have++[r1.1],r1.2)
def BV (k:Nat) (Y:LC×Int->OS S) (c0 c1:Int) (l:LC) (rec0:(LC)->Int->OS S) (v1:LC) (v15:Int):OS S:=ac (decide ((v15:Int)<(l.length:Int))) (ag (ai l v15) fun x1=>ab k (Jg k v1 x1 c0 c1) fun r2=>ac (!(r2.2==0)) (Y (([]:LC),r2.2)) (rec0 r2.1 (af .i64 (v15+1)))) (Y (v1,0))
def uT (k:Nat) (Y:LC×Int->OS S) (c0 c1:Int) (l:LC):Nat->(LC)->Int->OS S
 |0=>fun _ _=> .none
 |m+1=>fun v1 v15=>BV k Y c0 c1 l (uT k Y c0 c1 l m) v1 v15
def NF (k:Nat) (Y:LC×Int->OS S) (J0:(LC)->Int->OS S) (l a_from:LC) (c0 c1:Int):OS S:=J0 a_from 0
def DH (k:Nat) (l a_from:LC) (c0 c1:Int) (Y:LC×Int->OS S):OS S:=NF k Y (fun v1 v15=>uT k Y c0 c1 l k v1 v15) l a_from c0 c1
def nz (k:Nat) (f:LC) (a_from a_by:Int) (Y:LC×Int->OS S):OS S:=ab k (tV k [f]) fun r1=>ac (!(r1==0)) (Y (([]:LC),r1)) (ab k (yy k) fun r2=>ab k (DH k f r2 a_from a_by) fun r3=>ac (!(r3.2==0)) (Y (([]:LC),r3.2)) (ab k (ko k r3.1) fun r4=>Y (r4.1,r4.2)))
def yC (k:Nat) (l_0 l_1:Int) (f:LC) (a_from:Int) (Y:Pan Int (LC)->OS S):OS S:=ac (l_1==0) (ag (aS 1099511627776 0 f.length) fun x1=>Y (.ok f)) (ac (decide ((a_from:Int)>=24)) (ag (aS 1099511627776 0 f.length) fun x2=>Y (.ok f)) (ab k (nz k f a_from l_1) fun r3=>ac (!(r3.2==0)) (Y (.pan r3.2)) (Y (.ok r3.1))))
abbrev jC (S:Type):=Int->Int->Tm->Int->Int->(Pan Int Tm->OS S)->OS S
def B_ (hd:jC S) (k:Nat) (Y:Pan Int Tm->OS S) (r12:LC) (l_0 l_1:Int) (t:Tm) (bO:Int) (r2:LC) (b9_4:LT) (b9_5:LB) (x10:(Br Tm)) (more14 v d v90:Int) (rec2:(LB)->Int->Int->OS S) (rec3:(LT)->Int->OS S) (b17_1:LT) (v103:Int):OS S:=ac (decide ((v103:Int)<(x10.kids.length:Int))) (ag (ai x10.kids v103) fun x14=>hd l_0 l_1 (ae x14) v (af .i64 (d+more14)) fun r16=>Pan.elim r16 (fun r16=>ag (aS 1099511627776 b17_1.length [(ae r16)].length) fun x18=>rec3 (b17_1++[(ae r16)]) (af .i64 (v103+1))) (fun e17=>Y (.pan e17))) (ag (aS 1099511627776 b9_5.length [(Br.mk r12 b17_1)].length) fun x19=>rec2 (b9_5++[(Br.mk r12 b17_1)]) more14 (af .i64 (v90+1)))
def pP (hd:jC S) (k:Nat) (Y:Pan Int Tm->OS S) (rec2:(LB)->Int->Int->OS S) (r12:LC) (l_0 l_1:Int) (t:Tm) (bO:Int) (r2:LC) (b9_4:LT) (b9_5:LB) (x10:(Br Tm)) (more14 v d v90:Int):Nat->(LT)->Int->OS S
 |0=>fun _ _=> .none
 |m+1=>fun b17_1 v103=>B_ hd k Y r12 l_0 l_1 t bO r2 b9_4 b9_5 x10 more14 v d v90 rec2 (pP hd k Y rec2 r12 l_0 l_1 t bO r2 b9_4 b9_5 x10 more14 v d v90 m) b17_1 v103
def xj (hd:jC S) (k:Nat) (Y:Pan Int Tm->OS S) (l_0 l_1:Int) (t:Tm) (bO:Int) (r2:LC) (b9_4:LT) (v d:Int) (J3:(LC)->(LB)->(Br Tm)->Int->Int->(LT)->Int->OS S) (rec2:(LB)->Int->Int->OS S) (b9_5:LB) (more14 v90:Int):OS S:=ac (decide ((v90:Int)<(t.sys.length:Int))) (ag (ai t.sys v90) fun x10=>ab k (yC k l_0 l_1 x10.face d) fun r12=>Pan.elim r12 (fun r12=>J3 r12 b9_5 x10 more14 v90 ([]:LT) 0) (fun e13=>Y (.pan e13))) (Y (.ok (Tm.mk t.kind bO t.name r2 b9_4 b9_5)))
def lD (hd:jC S) (k:Nat) (Y:Pan Int Tm->OS S) (l_0 l_1:Int) (t:Tm) (bO:Int) (r2:LC) (b9_4:LT) (v d:Int):Nat->(LB)->Int->Int->OS S
 |0=>fun _ _ _=> .none
 |m+1=>fun b9_5 more14 v90=>xj hd k Y l_0 l_1 t bO r2 b9_4 v d (fun r12 b9_5 x10 more14 v90 b17_1 v103=>pP hd k Y (lD hd k Y l_0 l_1 t bO r2 b9_4 v d m) r12 l_0 l_1 t bO r2 b9_4 b9_5 x10 more14 v d v90 k b17_1 v103) (lD hd k Y l_0 l_1 t bO r2 b9_4 v d m) b9_5 more14 v90
def xh (hd:jC S) (k:Nat) (Y:Pan Int Tm->OS S) (l_0 l_1:Int) (t:Tm) (bO:Int) (r2:LC) (v d:Int) (J2:(LT)->(LB)->Int->Int->OS S) (rec1:(LT)->Int->OS S) (b9_4:LT) (v57:Int):OS S:=ac (decide ((v57:Int)<(t.kids.length:Int))) (ag (ai t.kids v57) fun x4=>ab k (kA k t.kind v57) fun r5=>hd l_0 l_1 (ae x4) (af .i64 (v+r5.1)) (af .i64 (d+r5.2)) fun r7=>Pan.elim r7 (fun r7=>ag (aS 1099511627776 b9_4.length [(ae r7)].length) fun x9=>rec1 (b9_4++[(ae r7)]) (af .i64 (v57+1))) (fun e8=>Y (.pan e8))) (ac (t.kind==15) (J2 b9_4 ([]:LB) 1 0) (J2 b9_4 ([]:LB) 0 0))
def n3 (hd:jC S) (k:Nat) (Y:Pan Int Tm->OS S) (l_0 l_1:Int) (t:Tm) (bO:Int) (r2:LC) (v d:Int):Nat->(LT)->Int->OS S
 |0=>fun _ _=> .none
 |m+1=>fun b9_4 v57=>xh hd k Y l_0 l_1 t bO r2 v d (fun b9_4 b9_5 more14 v90=>lD hd k Y l_0 l_1 t bO r2 b9_4 v d k b9_5 more14 v90) (n3 hd k Y l_0 l_1 t bO r2 v d m) b9_4 v57
def IF (hd:jC S) (k:Nat) (Y:Pan Int Tm->OS S) (l_0 l_1:Int) (t:Tm) (r2:LC) (v d:Int) (J1:Int->(LT)->Int->OS S) (bO:Int):OS S:=J1 bO ([]:LT) 0
def zK (hd:jC S) (k:Nat) (Y:Pan Int Tm->OS S) (l_0 l_1:Int) (t:Tm) (r2:LC) (v d:Int):Nat->Int->OS S
 |0=>fun _=> .none
 |_+1=>fun bO=>IF hd k Y l_0 l_1 t r2 v d (fun bO b9_4 v57=>n3 hd k Y l_0 l_1 t bO r2 v d k b9_4 v57) bO
def NP (hd:jC S) (k:Nat) (Y:Pan Int Tm->OS S) (J0:(LC)->Int->OS S) (l_0 l_1:Int) (t:Tm) (v d:Int):OS S:=ab k (yC k l_0 l_1 t.r d) fun r2=>Pan.elim r2 (fun r2=>ac (t.kind==1) (ac (decide ((t.n:Int)>=v)) (ac (decide ((t.n:Int)>(af .i64 (1000000000-l_0)))) (Y (.pan 100)) (J0 r2 (af .i64 (t.n+l_0)))) (J0 r2 t.n)) (J0 r2 t.n)) (fun e3=>Y (.pan e3))
def eZ:Nat->Int->Int->Tm->Int->Int->(Pan Int Tm->OS S)->OS S
 |0=>fun _ _ _ _ _ _=> .none
 |k+1=>fun l_0 l_1 t v d Y=>NP (eZ k) k Y (fun r2 bO=>zK (eZ k) k Y l_0 l_1 t r2 v d k bO) l_0 l_1 t v d
def DV (k:Nat) (c0 c1:Int) (c2:Tm) (Y:Pan Int Tm->OS S):OS S:=eZ k c1 0 (ae c2) 0 0 fun r2=>Pan.elim r2 (fun r2=>eZ k 0 c0 (ae r2) 0 0 fun r5=>Pan.elim r5 (fun r5=>Y (.ok (ae r5))) (fun e6=>Y (.pan e6))) (fun e3=>Y (.pan e3))
def B9 (k:Nat) (Y:Tm×Int->OS S) (c0 c1:Int) (c2:Tm) (numbers:List Int) (rec0:Int->OS S) (v19:Int):OS S:=ac (decide ((v19:Int)<(numbers.length:Int))) (ag (ai numbers v19) fun x2=>ac (decide ((x2:Int)<0)) (Y ((Tm.mk 0 0 au [] [] []),2)) (rec0 (af .i64 (v19+1)))) (ab k (DV k c0 c1 (ae c2)) fun r4=>Pan.elim r4 (fun r4=>Y ((ae r4),0)) (fun e5=>Y ((Tm.mk 0 0 au [] [] []),e5)))
def rS (k:Nat) (Y:Tm×Int->OS S) (c0 c1:Int) (c2:Tm) (numbers:List Int):Nat->Int->OS S
 |0=>fun _=> .none
 |m+1=>fun v19=>B9 k Y c0 c1 c2 numbers (rS k Y c0 c1 c2 numbers m) v19
def G7 (k:Nat) (Y:Tm×Int->OS S) (J0:Int->OS S) (t:Tm) (numbers:List Int) (c0 c1:Int) (c2:Tm):OS S:=ab k (ji k (ae t)) fun r1=>ac (!(r1==0)) (Y ((Tm.mk 0 0 au [] [] []),r1)) (J0 0)
def D0 (k:Nat) (t:Tm) (numbers:List Int) (c0 c1:Int) (c2:Tm) (Y:Tm×Int->OS S):OS S:=G7 k Y (fun v19=>rS k Y c0 c1 c2 numbers k v19) t numbers c0 c1 c2
def pb (k:Nat) (t:Tm) (vars dims:Int) (Y:Tm×Int->OS S):OS S:=ab k (D0 k (ae t) [vars,dims,af .i64 (1000000-vars)] dims vars (ae t)) fun r1=>Y ((ae r1.1),r1.2)
def gU (k:Nat) (t:Tm) (vars dims c0:Int) (Y:Tm×Int->OS S):OS S:=ab k (eb k c0) fun r1=>ac (!r1) (Y ((Tm.mk 0 0 au [] [] []),c0)) (ab k (pb k (ae t) vars dims) fun r2=>ab k (jh k (ae r2.1) r2.2 c0) fun r3=>Y ((ae r3.1),r3.2))
def yE (k:Nat) (a_n:Int) (Y:Int×Int×BA->OS S):OS S:=Y (1,a_n,au)
def mm (k:Nat) (a_e c0:Int) (Y:Int->OS S):OS S:=ac (c0==0) (Y a_e) (Y c0)
def BE (k:Nat) (Y:Int->OS S) (l:LT) (rec0:Int->Int->OS S) (jI v10:Int):OS S:=ac (decide ((v10:Int)<(l.length:Int))) (ag (ai l v10) fun x1=>ab k (ji k (ae x1)) fun r2=>ab k (mm k r2 jI) fun r3=>rec0 r3 (af .i64 (v10+1))) (Y jI)
def uJ (k:Nat) (Y:Int->OS S) (l:LT):Nat->Int->Int->OS S
 |0=>fun _ _=> .none
 |m+1=>fun jI v10=>BE k Y l (uJ k Y l m) jI v10
def Nn (k:Nat) (Y:Int->OS S) (J0:Int->Int->OS S) (l:LT):OS S:=J0 0 0
def o8 (k:Nat) (l:LT) (Y:Int->OS S):OS S:=Nn k Y (fun jI v10=>uJ k Y l k jI v10) l
def eT (k:Nat) (c0:Int) (Y:Bool->OS S):OS S:=Y (c0==0)
def yn (k:Nat) (f:LC) (c0:Int) (Y:LC×Int->OS S):OS S:=ab k (eT k c0) fun r1=>ac (!r1) (Y (([]:LC),c0)) (ab k (nz k f 0 1) fun r2=>ab k (mm k r2.2 c0) fun r3=>Y (r2.1,r3))
def Dz (k:Nat) (f g:LC) (Y:LC×Int->OS S):OS S:=ag (aS 1099511627776 ([]:LC).length f.length) fun x1=>ag (aS 1099511627776 (([]:LC)++f).length g.length) fun x2=>ab k (ko k ((([]:LC)++f)++g)) fun r3=>Y (r3.1,r3.2)
def DW (k:Nat) (c0:Int) (c1:Tm) (c2:Int) (Y:Pan Int Tm->OS S):OS S:=eZ k 0 c0 (ae c1) 0 (if 24<c2 then 24 else c2) fun r2=>Pan.elim r2 (fun r2=>Y (.ok (ae r2))) (fun e3=>Y (.pan e3))
def B7 (k:Nat) (Y:Tm×Int->OS S) (c0:Int) (c1:Tm) (c2:Int) (numbers:List Int) (rec0:Int->OS S) (v19:Int):OS S:=ac (decide ((v19:Int)<(numbers.length:Int))) (ag (ai numbers v19) fun x2=>ac (decide ((x2:Int)<0)) (Y ((Tm.mk 0 0 au [] [] []),2)) (rec0 (af .i64 (v19+1)))) (ab k (DW k c0 (ae c1) c2) fun r4=>Pan.elim r4 (fun r4=>Y ((ae r4),0)) (fun e5=>Y ((Tm.mk 0 0 au [] [] []),e5)))
def rQ (k:Nat) (Y:Tm×Int->OS S) (c0:Int) (c1:Tm) (c2:Int) (numbers:List Int):Nat->Int->OS S
 |0=>fun _=> .none
 |m+1=>fun v19=>B7 k Y c0 c1 c2 numbers (rQ k Y c0 c1 c2 numbers m) v19
def G5 (k:Nat) (Y:Tm×Int->OS S) (J0:Int->OS S) (t:Tm) (numbers:List Int) (c0:Int) (c1:Tm) (c2:Int):OS S:=ab k (ji k (ae t)) fun r1=>ac (!(r1==0)) (Y ((Tm.mk 0 0 au [] [] []),r1)) (J0 0)
def DY (k:Nat) (t:Tm) (numbers:List Int) (c0:Int) (c1:Tm) (c2:Int) (Y:Tm×Int->OS S):OS S:=G5 k Y (fun v19=>rQ k Y c0 c1 c2 numbers k v19) t numbers c0 c1 c2
def pc (k:Nat) (t:Tm) (a_from a_by:Int) (Y:Tm×Int->OS S):OS S:=ab k (DY k (ae t) [a_from,a_by] a_by (ae t) a_from) fun r1=>Y ((ae r1.1),r1.2)
def mn (k:Nat) (s i:Int) (Y:Int->OS S):OS S:=ab k (rl k i) fun r1=>ac (!r1) (Y (bZ .and .u32 s 16777215)) (ag (da (0<=(af .u64 i))) fun x2=>Y (bZ .or .u32 (bZ .and .u32 s 16777215) (af .u32 (1*2^min (cW (af .u64 i)) 32))))
def PD (k:Nat) (a_x:Int) (Y:Int->OS S):OS S:=ag (ai (ByteArray.mk #[0,1,1,2,1,2,2,3,1,2,2,3,2,3,3,4,1,2,2,3,2,3,3,4,2,3,3,4,3,4,4,5,1,2,2,3,2,3,3,4,2,3,3,4,3,4,4,5,2,3,3,4,3,4,4,5,3,4,4,5,4,5,5,6,1,2,2,3,2,3,3,4,2,3,3,4,3,4,4,5,2,3,3,4,3,4,4,5,3,4,4,5,4,5,5,6,2,3,3,4,3,4,4,5,3,4,4,5,4,5,5,6,3,4,4,5,4,5,5,6,4,5,5,6,5,6,6,7,1,2,2,3,2,3,3,4,2,3,3,4,3,4,4,5,2,3,3,4,3,4,4,5,3,4,4,5,4,5,5,6,2,3,3,4,3,4,4,5,3,4,4,5,4,5,5,6,3,4,4,5,4,5,5,6,4,5,5,6,5,6,6,7,2,3,3,4,3,4,4,5,3,4,4,5,4,5,5,6,3,4,4,5,4,5,5,6,4,5,5,6,5,6,6,7,3,4,4,5,4,5,5,6,4,5,5,6,5,6,6,7,4,5,5,6,5,6,6,7,5,6,6,7,6,7,7,8]).data.toList (Int.fdiv a_x (2^min (cW 24) 32))) fun x1=>ag (ai (ByteArray.mk #[0,1,1,2,1,2,2,3,1,2,2,3,2,3,3,4,1,2,2,3,2,3,3,4,2,3,3,4,3,4,4,5,1,2,2,3,2,3,3,4,2,3,3,4,3,4,4,5,2,3,3,4,3,4,4,5,3,4,4,5,4,5,5,6,1,2,2,3,2,3,3,4,2,3,3,4,3,4,4,5,2,3,3,4,3,4,4,5,3,4,4,5,4,5,5,6,2,3,3,4,3,4,4,5,3,4,4,5,4,5,5,6,3,4,4,5,4,5,5,6,4,5,5,6,5,6,6,7,1,2,2,3,2,3,3,4,2,3,3,4,3,4,4,5,2,3,3,4,3,4,4,5,3,4,4,5,4,5,5,6,2,3,3,4,3,4,4,5,3,4,4,5,4,5,5,6,3,4,4,5,4,5,5,6,4,5,5,6,5,6,6,7,2,3,3,4,3,4,4,5,3,4,4,5,4,5,5,6,3,4,4,5,4,5,5,6,4,5,5,6,5,6,6,7,3,4,4,5,4,5,5,6,4,5,5,6,5,6,6,7,4,5,5,6,5,6,6,7,5,6,6,7,6,7,7,8]).data.toList (bZ .and .u32 (Int.fdiv a_x (2^min (cW 16) 32)) 255)) fun x2=>ag (ai (ByteArray.mk #[0,1,1,2,1,2,2,3,1,2,2,3,2,3,3,4,1,2,2,3,2,3,3,4,2,3,3,4,3,4,4,5,1,2,2,3,2,3,3,4,2,3,3,4,3,4,4,5,2,3,3,4,3,4,4,5,3,4,4,5,4,5,5,6,1,2,2,3,2,3,3,4,2,3,3,4,3,4,4,5,2,3,3,4,3,4,4,5,3,4,4,5,4,5,5,6,2,3,3,4,3,4,4,5,3,4,4,5,4,5,5,6,3,4,4,5,4,5,5,6,4,5,5,6,5,6,6,7,1,2,2,3,2,3,3,4,2,3,3,4,3,4,4,5,2,3,3,4,3,4,4,5,3,4,4,5,4,5,5,6,2,3,3,4,3,4,4,5,3,4,4,5,4,5,5,6,3,4,4,5,4,5,5,6,4,5,5,6,5,6,6,7,2,3,3,4,3,4,4,5,3,4,4,5,4,5,5,6,3,4,4,5,4,5,5,6,4,5,5,6,5,6,6,7,3,4,4,5,4,5,5,6,4,5,5,6,5,6,6,7,4,5,5,6,5,6,6,7,5,6,6,7,6,7,7,8]).data.toList (bZ .and .u32 (Int.fdiv a_x (2^min (cW 8) 32)) 255)) fun x3=>ag (ai (ByteArray.mk #[0,1,1,2,1,2,2,3,1,2,2,3,2,3,3,4,1,2,2,3,2,3,3,4,2,3,3,4,3,4,4,5,1,2,2,3,2,3,3,4,2,3,3,4,3,4,4,5,2,3,3,4,3,4,4,5,3,4,4,5,4,5,5,6,1,2,2,3,2,3,3,4,2,3,3,4,3,4,4,5,2,3,3,4,3,4,4,5,3,4,4,5,4,5,5,6,2,3,3,4,3,4,4,5,3,4,4,5,4,5,5,6,3,4,4,5,4,5,5,6,4,5,5,6,5,6,6,7,1,2,2,3,2,3,3,4,2,3,3,4,3,4,4,5,2,3,3,4,3,4,4,5,3,4,4,5,4,5,5,6,2,3,3,4,3,4,4,5,3,4,4,5,4,5,5,6,3,4,4,5,4,5,5,6,4,5,5,6,5,6,6,7,2,3,3,4,3,4,4,5,3,4,4,5,4,5,5,6,3,4,4,5,4,5,5,6,4,5,5,6,5,6,6,7,3,4,4,5,4,5,5,6,4,5,5,6,5,6,6,7,4,5,5,6,5,6,6,7,5,6,6,7,6,7,7,8]).data.toList (bZ .and .u32 a_x 255)) fun x4=>Y (af .i64 (af .u8 ((af .u8 ((af .u8 ((x1.toNat:Int)+(x2.toNat:Int)))+(x3.toNat:Int)))+(x4.toNat:Int))))
def pd (k:Nat) (s:Int) (Y:Int->OS S):OS S:=ab k (PD k (bZ .and .u32 s 16777215)) fun r1=>Y r1
def Dr (k:Nat) (i:Int) (Y:Bool->OS S):OS S:=ab k (mn k 0 i) fun r1=>ab k (pd k r1) fun r2=>Y (r2==1)
def Dv (k:Nat) (t:Tm) (i:Int) (a_r:LC) (Y:Int->OS S):OS S:=ab k (ji k (ae t)) fun r1=>ac (!(r1==0)) (Y r1) (ab k (Dr k i) fun r2=>ac (!r2) (Y 2) (ab k (lm k a_r) fun r3=>ac (!r3) (Y 2) (Y 0)))
def Ja (k:Nat) (c0:Int) (c1:LC) (Y:Unit->OS S):OS S:=Y ()
def Jb (k:Nat) (c0:Int) (c1:LC) (Y:Unit->OS S):OS S:=Y ()
def I_ (k:Nat) (i:Int) (a_r:LC) (Y:Int×LC->OS S):OS S:=ab k (Ja k i a_r) fun r1=>ab k (Jb k i a_r) fun r2=>Y (i,a_r)
def lq (k:Nat) (s i:Int) (Y:Bool->OS S):OS S:=ab k (rl k i) fun r1=>ac (r1) (ag (da (0<=(af .u64 i))) fun x2=>Y ((bZ .and .u32 (Int.fdiv s (2^min (cW (af .u64 i)) 32)) 1)==1)) (Y false)
def yq (k:Nat) (f:LC) (Y:LC->OS S):OS S:=ag (aS 1099511627776 0 f.length) fun x1=>Y f
def Dy (k:Nat) (i:Int) (Y:Bool->OS S):OS S:=ab k (mn k 0 i) fun r1=>ab k (pd k r1) fun r2=>Y (r2==1)
def yx (k:Nat) (c:Cl) (Y:Cl×Bool->OS S):OS S:=ab k (yo k c) fun r1=>Y (c,!r1)
def BQ (k:Nat) (Y:LC->OS S) (l:LC) (rec0:Int->(LC)->OS S) (v12:Int) (out5:LC):OS S:=ac (decide ((v12:Int)<(l.length:Int))) (ag (ai l v12) fun x1=>ab k (yx k x1) fun r2=>ac (r2.2) (ag (aS 1099511627776 out5.length [r2.1].length) fun x3=>rec0 (af .i64 (v12+1)) (out5++[r2.1])) (rec0 (af .i64 (v12+1)) out5)) (Y out5)
def uO (k:Nat) (Y:LC->OS S) (l:LC):Nat->Int->(LC)->OS S
 |0=>fun _ _=> .none
 |m+1=>fun v12 out5=>BQ k Y l (uO k Y l m) v12 out5
def Nz (k:Nat) (Y:LC->OS S) (J0:Int->(LC)->OS S) (l:LC):OS S:=J0 0 ([]:LC)
def DB (k:Nat) (l:LC) (Y:LC->OS S):OS S:=Nz k Y (fun v12 out5=>uO k Y l k v12 out5) l
def yw (k:Nat) (f:LC) (Y:LC×Int->OS S):OS S:=ab k (lm k f) fun r1=>ac (!r1) (Y (([]:LC),2)) (ab k (DB k f) fun r2=>ab k (ko k r2) fun r3=>Y (r3.1,r3.2))
def DC (k:Nat) (b c0:Cl) (Y:Cl×Bool->OS S):OS S:=ab k (tO k c0 b) fun r1=>ab k (yx k r1) fun r2=>Y (r2.1,r2.2)
def BP (k:Nat) (Y:LC->OS S) (c0:Cl) (l:LC) (rec0:Int->(LC)->OS S) (v12:Int) (out5:LC):OS S:=ac (decide ((v12:Int)<(l.length:Int))) (ag (ai l v12) fun x1=>ab k (DC k x1 c0) fun r2=>ac (r2.2) (ag (aS 1099511627776 out5.length [r2.1].length) fun x3=>rec0 (af .i64 (v12+1)) (out5++[r2.1])) (rec0 (af .i64 (v12+1)) out5)) (Y out5)
def uN (k:Nat) (Y:LC->OS S) (c0:Cl) (l:LC):Nat->Int->(LC)->OS S
 |0=>fun _ _=> .none
 |m+1=>fun v12 out5=>BP k Y c0 l (uN k Y c0 l m) v12 out5
def Ny (k:Nat) (Y:LC->OS S) (J0:Int->(LC)->OS S) (l:LC) (c0:Cl):OS S:=J0 0 ([]:LC)
def DA (k:Nat) (l:LC) (c0:Cl) (Y:LC->OS S):OS S:=Ny k Y (fun v12 out5=>uN k Y c0 l k v12 out5) l c0
def BR (k:Nat) (Y:LC×Int->OS S) (g f:LC) (rec0:Int->(LC)->OS S) (v11:Int) (out6:LC):OS S:=ac (decide ((v11:Int)<(f.length:Int))) (ag (ai f v11) fun x1=>ab k (DA k g x1) fun r2=>ag (aS 1099511627776 out6.length r2.length) fun x3=>rec0 (af .i64 (v11+1)) (out6++r2)) (ab k (ko k out6) fun r4=>Y (r4.1,r4.2))
def uP (k:Nat) (Y:LC×Int->OS S) (g f:LC):Nat->Int->(LC)->OS S
 |0=>fun _ _=> .none
 |m+1=>fun v11 out6=>BR k Y g f (uP k Y g f m) v11 out6
def NA (k:Nat) (Y:LC×Int->OS S) (J0:Int->(LC)->OS S) (f g:LC):OS S:=J0 0 ([]:LC)
def tR (k:Nat) (f g:LC) (Y:LC×Int->OS S):OS S:=NA k Y (fun v11 out6=>uP k Y g f k v11 out6) f g
def ri (k:Nat) (Y:LC->OS S):OS S:=Y [(Cl.mk 0 0)]
def BX (k:Nat) (Y:LC×Int->OS S) (r5:List Int) (rec1:Int->(LC)->OS S) (v28:Int) (out4':LC):OS S:=ac (decide ((v28:Int)<(r5.length:Int))) (ag (ai r5 v28) fun x6=>ab k (mn k 0 x6) fun r7=>ag (aS 1099511627776 out4'.length [(Cl.mk r7 0)].length) fun x8=>rec1 (af .i64 (v28+1)) (out4'++[(Cl.mk r7 0)])) (ab k (ko k out4') fun r9=>Y (r9.1,r9.2))
def rP (k:Nat) (Y:LC×Int->OS S) (r5:List Int):Nat->Int->(LC)->OS S
 |0=>fun _ _=> .none
 |m+1=>fun v28 out4'=>BX k Y r5 (rP k Y r5 m) v28 out4'
def xg (k:Nat) (Y:LC×Int->OS S) (c:Cl) (r1:List Int) (J1:(List Int)->Int->(LC)->OS S) (rec0:Int->(LC)->OS S) (v13:Int) (out4:LC):OS S:=ac (decide ((v13:Int)<(r1.length:Int))) (ag (ai r1 v13) fun x2=>ab k (mn k 0 x2) fun r3=>ag (aS 1099511627776 out4.length [(Cl.mk 0 r3)].length) fun x4=>rec0 (af .i64 (v13+1)) (out4++[(Cl.mk 0 r3)])) (AD c.neg fun r5=>J1 r5 0 out4)
def uU (k:Nat) (Y:LC×Int->OS S) (c:Cl) (r1:List Int):Nat->Int->(LC)->OS S
 |0=>fun _ _=> .none
 |m+1=>fun v13 out4=>xg k Y c r1 (fun r5 v28 out4'=>rP k Y r5 k v28 out4') (uU k Y c r1 m) v13 out4
def NH (k:Nat) (Y:LC×Int->OS S) (J0:(List Int)->Int->(LC)->OS S) (c:Cl):OS S:=AD c.pos fun r1=>J0 r1 0 ([]:LC)
def DJ (k:Nat) (c:Cl) (Y:LC×Int->OS S):OS S:=NH k Y (fun r1 v13 out4=>uU k Y c r1 k v13 out4) c
def BW (k:Nat) (Y:LC×Int->OS S) (x1:Cl) (g f:LC) (v13:Int) (rec0:Int->(LC)->OS S) (rec1:Int->(LC)->OS S) (v19:Int) (out6':LC):OS S:=ac (decide ((v19:Int)<(g.length:Int))) (ag (ai g v19) fun x2=>ab k (tO k x1 x2) fun r3=>ag (aS 1099511627776 out6'.length [r3].length) fun x4=>rec1 (af .i64 (v19+1)) (out6'++[r3])) (rec0 (af .i64 (v13+1)) out6')
def rO (k:Nat) (Y:LC×Int->OS S) (rec0:Int->(LC)->OS S) (x1:Cl) (g f:LC) (v13:Int):Nat->Int->(LC)->OS S
 |0=>fun _ _=> .none
 |m+1=>fun v19 out6'=>BW k Y x1 g f v13 rec0 (rO k Y rec0 x1 g f v13 m) v19 out6'
def xe (k:Nat) (Y:LC×Int->OS S) (g f:LC) (J1:Cl->Int->Int->(LC)->OS S) (rec0:Int->(LC)->OS S) (v13:Int) (out6:LC):OS S:=ac (decide ((v13:Int)<(f.length:Int))) (ag (ai f v13) fun x1=>J1 x1 v13 0 out6) (ab k (ko k out6) fun r5=>Y (r5.1,r5.2))
def pO (k:Nat) (Y:LC×Int->OS S) (g f:LC):Nat->Int->(LC)->OS S
 |0=>fun _ _=> .none
 |m+1=>fun v13 out6=>xe k Y g f (fun x1 v13 v19 out6'=>rO k Y (pO k Y g f m) x1 g f v13 k v19 out6') (pO k Y g f m) v13 out6
def NG (k:Nat) (Y:LC×Int->OS S) (J0:Int->(LC)->OS S) (f g:LC):OS S:=J0 0 ([]:LC)
def nA (k:Nat) (f g:LC) (Y:LC×Int->OS S):OS S:=NG k Y (fun v13 out6=>pO k Y g f k v13 out6) f g
def DI (k:Nat) (a_have:LC) (c:Cl) (Y:LC×Int->OS S):OS S:=ab k (DJ k c) fun r1=>ac (!(r1.2==0)) (Y (([]:LC),r1.2)) (ab k (nA k a_have r1.1) fun r2=>Y (r2.1,r2.2))
def BU (k:Nat) (Y:LC×Int->OS S) (l:LC) (rec0:(LC)->Int->OS S) (v1:LC) (v15:Int):OS S:=ac (decide ((v15:Int)<(l.length:Int))) (ag (ai l v15) fun x1=>ab k (DI k v1 x1) fun r2=>ac (!(r2.2==0)) (Y (([]:LC),r2.2)) (rec0 r2.1 (af .i64 (v15+1)))) (Y (v1,0))
def uS (k:Nat) (Y:LC×Int->OS S) (l:LC):Nat->(LC)->Int->OS S
 |0=>fun _ _=> .none
 |m+1=>fun v1 v15=>BU k Y l (uS k Y l m) v1 v15
def NE (k:Nat) (Y:LC×Int->OS S) (J0:(LC)->Int->OS S) (l a_from:LC):OS S:=J0 a_from 0
def Ji (k:Nat) (l a_from:LC) (Y:LC×Int->OS S):OS S:=NE k Y (fun v1 v15=>uS k Y l k v1 v15) l a_from
def tU (k:Nat) (f:LC) (Y:LC×Int->OS S):OS S:=ab k (ri k) fun r1=>ab k (Ji k f r1) fun r2=>Y (r2.1,r2.2)
def DE (k:Nat) (f:LC) (Y:LC×Int->OS S):OS S:=ab k (tV k [f]) fun r1=>ac (!(r1==0)) (Y (([]:LC),r1)) (ab k (tU k f) fun r2=>Y (r2.1,r2.2))
def Dw (k:Nat) (f:LC) (Y:LC×Int->OS S):OS S:=ab k (DE k f) fun r1=>ac (!(r1.2==0)) (Y (([]:LC),r1.2)) (ab k (yw k r1.1) fun r2=>Y (r2.1,r2.2))
def BO (k:Nat) (Y:LC×Int->OS S) (i:Int) (a_r f:LC) (v29:Int) (v8:LC) (rec0:Int->(LC)->OS S) (g11:LC) (v13:Int):OS S:=ac (v13==0) (ab k (Dz k v8 g11) fun r10=>ac (!(r10.2==0)) (Y (([]:LC),r10.2)) (rec0 (af .i64 (v29+1)) r10.1)) (ac (!(v13==0)) (Y (([]:LC),v13)) (rec0 (af .i64 (v29+1)) v8))
def uM (k:Nat) (Y:LC×Int->OS S) (rec0:Int->(LC)->OS S) (i:Int) (a_r f:LC) (v29:Int) (v8:LC):Nat->(LC)->Int->OS S
 |0=>fun _ _=> .none
 |_+1=>fun g11 v13=>BO k Y i a_r f v29 v8 rec0 g11 v13
def xd (k:Nat) (Y:LC×Int->OS S) (i:Int) (a_r f:LC) (J1:Int->(LC)->(LC)->Int->OS S) (rec0:Int->(LC)->OS S) (v29:Int) (v8:LC):OS S:=ac (decide ((v29:Int)<(f.length:Int))) (ag (ai f v29) fun x4=>ab k (nB k x4.pos i) fun r5=>ab k (nB k x4.neg i) fun r6=>ab k (lq k x4.pos i) fun r7=>ac (r7) (ab k (yw k a_r) fun r8=>ac (r8.2==0) (ab k (tR k [(Cl.mk r5 r6)] r8.1) fun r9=>J1 v29 v8 r9.1 r9.2) (J1 v29 v8 [(Cl.mk r5 r6)] r8.2)) (ab k (lq k x4.neg i) fun r11=>ac (r11) (ab k (Dw k a_r) fun r12=>ac (r12.2==0) (ab k (tR k [(Cl.mk r5 r6)] r12.1) fun r13=>J1 v29 v8 r13.1 r13.2) (J1 v29 v8 [(Cl.mk r5 r6)] r12.2)) (J1 v29 v8 [(Cl.mk r5 r6)] 0))) (Y (v8,0))
def pN (k:Nat) (Y:LC×Int->OS S) (i:Int) (a_r f:LC):Nat->Int->(LC)->OS S
 |0=>fun _ _=> .none
 |m+1=>fun v29 v8=>xd k Y i a_r f (fun v29 v8 g11 v13=>uM k Y (pN k Y i a_r f m) i a_r f v29 v8 k g11 v13) (pN k Y i a_r f m) v29 v8
def Nx (k:Nat) (Y:LC×Int->OS S) (J0:Int->(LC)->OS S) (f:LC) (i:Int) (a_r:LC):OS S:=ab k (tQ k f) fun r1=>ac (!r1) (Y (([]:LC),2)) (ab k (Dy k i) fun r2=>ac (!r2) (Y (([]:LC),2)) (ab k (lm k a_r) fun r3=>ac (!r3) (Y (([]:LC),2)) (J0 0 [])))
def Dx (k:Nat) (f:LC) (i:Int) (a_r:LC) (Y:LC×Int->OS S):OS S:=Nx k Y (fun v29 v8=>pN k Y i a_r f k v29 v8) f i a_r
def yr (k:Nat) (f:LC) (depth c0:Int) (c1:LC) (Y:LC×Int->OS S):OS S:=ab k (tT k f) fun r1=>ab k (lq k r1 (af .i64 (c0+depth))) fun r2=>ac (!r2) (ab k (yq k f) fun r3=>Y (r3,0)) (ab k (nz k c1 0 depth) fun r4=>ac (!(r4.2==0)) (Y (([]:LC),r4.2)) (ab k (Dx k f (af .i64 (c0+depth)) r4.1) fun r5=>Y (r5.1,r5.2)))
def DD (k:Nat) (i:Int) (Y:LC×Int->OS S):OS S:=ab k (mn k 0 i) fun r1=>ab k (pd k r1) fun r2=>ac (r2==0) (Y (([]:LC),2)) (ab k (mn k 0 i) fun r3=>Y ([(Cl.mk r3 0)],0))
def rj (k:Nat) (f g:LC) (Y:LC×Int->OS S):OS S:=ag (aS 1099511627776 ([]:LC).length f.length) fun x1=>ag (aS 1099511627776 (([]:LC)++f).length g.length) fun x2=>ab k (ko k ((([]:LC)++f)++g)) fun r3=>Y (r3.1,r3.2)
def DG (k:Nat) (a_have:LC) (c:Cl) (c0:Int) (c1:LC) (Y:LC×Int->OS S):OS S:=ab k (nB k c.pos c0) fun r1=>ab k (nB k c.neg c0) fun r2=>ab k (lq k c.pos c0) fun r3=>ac (r3) (ab k (nA k [(Cl.mk r1 r2)] c1) fun r4=>ac (!(r4.2==0)) (Y (([]:LC),r4.2)) (ab k (lq k c.neg c0) fun r5=>ac (r5) (ab k (tU k c1) fun r6=>ac (!(r6.2==0)) (Y (([]:LC),r6.2)) (ab k (nA k r4.1 r6.1) fun r7=>ac (!(r7.2==0)) (Y (([]:LC),r7.2)) (ab k (rj k a_have r7.1) fun r8=>Y (r8.1,r8.2)))) (ab k (rj k a_have r4.1) fun r9=>Y (r9.1,r9.2)))) (ab k (lq k c.neg c0) fun r10=>ac (r10) (ab k (tU k c1) fun r11=>ac (!(r11.2==0)) (Y (([]:LC),r11.2)) (ab k (nA k [(Cl.mk r1 r2)] r11.1) fun r12=>ac (!(r12.2==0)) (Y (([]:LC),r12.2)) (ab k (rj k a_have r12.1) fun r13=>Y (r13.1,r13.2)))) (ab k (rj k a_have [(Cl.mk r1 r2)]) fun r14=>Y (r14.1,r14.2)))
def BT (k:Nat) (Y:LC×Int->OS S) (c0:Int) (c1 l:LC) (rec0:(LC)->Int->OS S) (v1:LC) (v15:Int):OS S:=ac (decide ((v15:Int)<(l.length:Int))) (ag (ai l v15) fun x1=>ab k (DG k v1 x1 c0 c1) fun r2=>ac (!(r2.2==0)) (Y (([]:LC),r2.2)) (rec0 r2.1 (af .i64 (v15+1)))) (Y (v1,0))
def uR (k:Nat) (Y:LC×Int->OS S) (c0:Int) (c1 l:LC):Nat->(LC)->Int->OS S
 |0=>fun _ _=> .none
 |m+1=>fun v1 v15=>BT k Y c0 c1 l (uR k Y c0 c1 l m) v1 v15
def ND (k:Nat) (Y:LC×Int->OS S) (J0:(LC)->Int->OS S) (l a_from:LC) (c0:Int) (c1:LC):OS S:=J0 a_from 0
def Jh (k:Nat) (l a_from:LC) (c0:Int) (c1:LC) (Y:LC×Int->OS S):OS S:=ND k Y (fun v1 v15=>uR k Y c0 c1 l k v1 v15) l a_from c0 c1
def DF (k:Nat) (f:LC) (i:Int) (a_r:LC) (Y:LC×Int->OS S):OS S:=ab k (tV k [f,a_r]) fun r1=>ac (!(r1==0)) (Y (([]:LC),r1)) (ab k (DD k i) fun r2=>ac (!(r2.2==0)) (Y (([]:LC),r2.2)) (ab k (yy k) fun r3=>ab k (Jh k f r3 i a_r) fun r4=>Y (r4.1,r4.2)))
def Ds (k:Nat) (f:LC) (depth c0:Int) (c1:LC) (Y:LC×Int->OS S):OS S:=ab k (tT k f) fun r1=>ab k (lq k r1 (af .i64 (c0+depth))) fun r2=>ac (!r2) (ab k (yq k f) fun r3=>Y (r3,0)) (ab k (nz k c1 0 depth) fun r4=>ac (!(r4.2==0)) (Y (([]:LC),r4.2)) (ab k (DF k f (af .i64 (c0+depth)) r4.1) fun r5=>Y (r5.1,r5.2)))
def Dt (k:Nat) (t:Tm) (depth c0:Int) (c1:LC) (Y:LC×Int->OS S):OS S:=ac (t.kind==14) (ab k (yr k t.r depth c0 c1) fun r1=>Y (r1.1,r1.2)) (ab k (Ds k t.r depth c0 c1) fun r2=>Y (r2.1,r2.2))
def yu (k:Nat) (i:Int) (c0:Tm) (Y:Int->OS S):OS S:=ab k (kA k c0.kind i) fun r1=>Y r1.2
def yv (k:Nat) (p c0:Int) (Y:Int->OS S):OS S:=Y c0
abbrev eJ (S:Type):=Tm->Int->Int->(LC)->(Tm×Int->OS S)->OS S
def BJ (hd:eJ S) (k:Nat) (Y:LT×Int->OS S) (c0:Int) (c1:LC) (c4:Int) (l:LT) (depth:Int) (rec0:(LT)->Int->OS S) (out10:LT) (v17:Int):OS S:=ac (decide ((v17:Int)<(l.length:Int))) (ag (ai l v17) fun x1=>ab k (yv k v17 c4) fun r2=>hd (ae x1) (af .i64 (depth+r2)) c0 c1 fun r3=>ac (!(r3.2==0)) (Y (([]:LT),r3.2)) (ag (aS 1099511627776 out10.length [(ae r3.1)].length) fun x4=>rec0 (out10++[(ae r3.1)]) (af .i64 (v17+1)))) (Y (out10,0))
def pL (hd:eJ S) (k:Nat) (Y:LT×Int->OS S) (c0:Int) (c1:LC) (c4:Int) (l:LT) (depth:Int):Nat->(LT)->Int->OS S
 |0=>fun _ _=> .none
 |m+1=>fun out10 v17=>BJ hd k Y c0 c1 c4 l depth (pL hd k Y c0 c1 c4 l depth m) out10 v17
def Nt (hd:eJ S) (k:Nat) (Y:LT×Int->OS S) (J0:(LT)->Int->OS S) (l:LT) (depth c0:Int) (c1:LC) (c4:Int):OS S:=J0 ([]:LT) 0
def Je (hd:eJ S) (k:Nat) (l:LT) (depth c0:Int) (c1:LC) (c4:Int) (Y:LT×Int->OS S):OS S:=Nt hd k Y (fun out10 v17=>pL hd k Y c0 c1 c4 l depth k out10 v17) l depth c0 c1 c4
def BL (hd:eJ S) (k:Nat) (Y:LT×Int->OS S) (c0:Int) (c1:LC) (c4:Tm) (l:LT) (depth:Int) (rec0:(LT)->Int->OS S) (out10:LT) (v17:Int):OS S:=ac (decide ((v17:Int)<(l.length:Int))) (ag (ai l v17) fun x1=>ab k (yu k v17 (ae c4)) fun r2=>hd (ae x1) (af .i64 (depth+r2)) c0 c1 fun r3=>ac (!(r3.2==0)) (Y (([]:LT),r3.2)) (ag (aS 1099511627776 out10.length [(ae r3.1)].length) fun x4=>rec0 (out10++[(ae r3.1)]) (af .i64 (v17+1)))) (Y (out10,0))
def pM (hd:eJ S) (k:Nat) (Y:LT×Int->OS S) (c0:Int) (c1:LC) (c4:Tm) (l:LT) (depth:Int):Nat->(LT)->Int->OS S
 |0=>fun _ _=> .none
 |m+1=>fun out10 v17=>BL hd k Y c0 c1 c4 l depth (pM hd k Y c0 c1 c4 l depth m) out10 v17
def Nu (hd:eJ S) (k:Nat) (Y:LT×Int->OS S) (J0:(LT)->Int->OS S) (l:LT) (depth c0:Int) (c1:LC) (c4:Tm):OS S:=J0 ([]:LT) 0
def Jf (hd:eJ S) (k:Nat) (l:LT) (depth c0:Int) (c1:LC) (c4:Tm) (Y:LT×Int->OS S):OS S:=Nu hd k Y (fun out10 v17=>pM hd k Y c0 c1 c4 l depth k out10 v17) l depth c0 c1 c4
def BM (hd:eJ S) (k:Nat) (Y:Tm×Int->OS S) (c0:Int) (c1:LC) (t:Tm) (r1:LC×Int) (r2:LT×Int) (depth:Int) (rec0:Int->(LB)->Int->OS S) (dH:Int) (b8_5:LB) (v55:Int):OS S:=ac (decide ((v55:Int)<(t.sys.length:Int))) (ag (ai t.sys v55) fun x3=>ab k (yr k x3.face depth c0 c1) fun r4=>ac (!(r4.2==0)) (Y ((Tm.mk 0 0 au [] [] []),r4.2)) (ac ((r4.1.length:Int)==0) (rec0 dH b8_5 (af .i64 (v55+1))) (ab k (Je hd k x3.kids depth c0 c1 dH) fun r5=>ac (!(r5.2==0)) (Y ((Tm.mk 0 0 au [] [] []),r5.2)) (ag (aS 1099511627776 b8_5.length [(Br.mk r4.1 r5.1)].length) fun x6=>rec0 dH (b8_5++[(Br.mk r4.1 r5.1)]) (af .i64 (v55+1)))))) (Y ((Tm.mk t.kind t.n t.name r1.1 r2.1 b8_5),0))
def jS (hd:eJ S) (k:Nat) (Y:Tm×Int->OS S) (c0:Int) (c1:LC) (t:Tm) (r1:LC×Int) (r2:LT×Int) (depth:Int):Nat->Int->(LB)->Int->OS S
 |0=>fun _ _ _=> .none
 |m+1=>fun dH b8_5 v55=>BM hd k Y c0 c1 t r1 r2 depth (jS hd k Y c0 c1 t r1 r2 depth m) dH b8_5 v55
def Nv (hd:eJ S) (k:Nat) (Y:Tm×Int->OS S) (J0:(LC×Int)->(LT×Int)->Int->(LB)->Int->OS S) (t:Tm) (depth c0:Int) (c1:LC):OS S:=ab k (Dt k (ae t) depth c0 c1) fun r1=>ac (!(r1.2==0)) (Y ((Tm.mk 0 0 au [] [] []),r1.2)) (ab k (Jf hd k t.kids depth c0 c1 (ae t)) fun r2=>ac (!(r2.2==0)) (Y ((Tm.mk 0 0 au [] [] []),r2.2)) (ac (t.kind==15) (J0 r1 r2 1 ([]:LB) 0) (J0 r1 r2 0 ([]:LB) 0)))
def gT:Nat->Tm->Int->Int->(LC)->(Tm×Int->OS S)->OS S
 |0=>fun _ _ _ _ _=> .none
 |k+1=>fun t depth c0 c1 Y=>Nv (gT k) k Y (fun r1 r2 dH b8_5 v55=>jS (gT k) k Y c0 c1 t r1 r2 depth k dH b8_5 v55) t depth c0 c1
def I9 (k:Nat) (i:Int) (Y:Int->OS S):OS S:=Y i
def t6 (k:Nat) (s i:Int) (Y:Int->OS S):OS S:=ab k (rl k i) fun r1=>ac (!r1) (Y (bZ .and .u32 s 16777215)) (ab k (t8 k i) fun r2=>ag (da (0<=(af .u64 (af .i64 (i+1))))) fun x3=>ag (da (0<=(af .u64 i))) fun x4=>Y (bZ .or .u32 (bZ .and .u32 (bZ .and .u32 s 16777215) r2) (af .u32 ((Int.fdiv (bZ .and .u32 s 16777215) (2^min (cW (af .u64 (af .i64 (i+1)))) 32))*2^min (cW (af .u64 i)) 32))))
def BG (k:Nat) (Y:LC×Int->OS S) (c0 depth:Int) (f:LC) (rec0:Int->(LC)->OS S) (v12:Int) (out7:LC):OS S:=ac (decide ((v12:Int)<(f.length:Int))) (ag (ai f v12) fun x1=>ab k (t6 k x1.pos (af .i64 (c0+depth))) fun r2=>ab k (t6 k x1.neg (af .i64 (c0+depth))) fun r3=>ag (aS 1099511627776 out7.length [(Cl.mk r2 r3)].length) fun x4=>rec0 (af .i64 (v12+1)) (out7++[(Cl.mk r2 r3)])) (ab k (ko k out7) fun r5=>Y (r5.1,r5.2))
def uL (k:Nat) (Y:LC×Int->OS S) (c0 depth:Int) (f:LC):Nat->Int->(LC)->OS S
 |0=>fun _ _=> .none
 |m+1=>fun v12 out7=>BG k Y c0 depth f (uL k Y c0 depth f m) v12 out7
def Nq (k:Nat) (Y:LC×Int->OS S) (J0:Int->(LC)->OS S) (f:LC) (depth c0:Int):OS S:=J0 0 ([]:LC)
def tP (k:Nat) (f:LC) (depth c0:Int) (Y:LC×Int->OS S):OS S:=Nq k Y (fun v12 out7=>uL k Y c0 depth f k v12 out7) f depth c0
def Du (k:Nat) (t:Tm) (depth c0:Int) (Y:LC×Int->OS S):OS S:=ac (t.kind==14) (ab k (tP k t.r depth c0) fun r1=>Y (r1.1,r1.2)) (ab k (tP k t.r depth c0) fun r2=>Y (r2.1,r2.2))
abbrev eK (S:Type):=Tm->Int->Int->(Tm×Int->OS S)->OS S
def BH (hd:eK S) (k:Nat) (Y:LT×Int->OS S) (c0 c1:Int) (l:LT) (depth:Int) (rec0:(LT)->Int->OS S) (out10:LT) (v17:Int):OS S:=ac (decide ((v17:Int)<(l.length:Int))) (ag (ai l v17) fun x1=>ab k (yv k v17 c1) fun r2=>hd (ae x1) (af .i64 (depth+r2)) c0 fun r3=>ac (!(r3.2==0)) (Y (([]:LT),r3.2)) (ag (aS 1099511627776 out10.length [(ae r3.1)].length) fun x4=>rec0 (out10++[(ae r3.1)]) (af .i64 (v17+1)))) (Y (out10,0))
def pJ (hd:eK S) (k:Nat) (Y:LT×Int->OS S) (c0 c1:Int) (l:LT) (depth:Int):Nat->(LT)->Int->OS S
 |0=>fun _ _=> .none
 |m+1=>fun out10 v17=>BH hd k Y c0 c1 l depth (pJ hd k Y c0 c1 l depth m) out10 v17
def Nr (hd:eK S) (k:Nat) (Y:LT×Int->OS S) (J0:(LT)->Int->OS S) (l:LT) (depth c0 c1:Int):OS S:=J0 ([]:LT) 0
def Jc (hd:eK S) (k:Nat) (l:LT) (depth c0 c1:Int) (Y:LT×Int->OS S):OS S:=Nr hd k Y (fun out10 v17=>pJ hd k Y c0 c1 l depth k out10 v17) l depth c0 c1
def BI (hd:eK S) (k:Nat) (Y:LT×Int->OS S) (c0:Int) (c1:Tm) (l:LT) (depth:Int) (rec0:(LT)->Int->OS S) (out10:LT) (v17:Int):OS S:=ac (decide ((v17:Int)<(l.length:Int))) (ag (ai l v17) fun x1=>ab k (yu k v17 (ae c1)) fun r2=>hd (ae x1) (af .i64 (depth+r2)) c0 fun r3=>ac (!(r3.2==0)) (Y (([]:LT),r3.2)) (ag (aS 1099511627776 out10.length [(ae r3.1)].length) fun x4=>rec0 (out10++[(ae r3.1)]) (af .i64 (v17+1)))) (Y (out10,0))
def pK (hd:eK S) (k:Nat) (Y:LT×Int->OS S) (c0:Int) (c1:Tm) (l:LT) (depth:Int):Nat->(LT)->Int->OS S
 |0=>fun _ _=> .none
 |m+1=>fun out10 v17=>BI hd k Y c0 c1 l depth (pK hd k Y c0 c1 l depth m) out10 v17
def Ns (hd:eK S) (k:Nat) (Y:LT×Int->OS S) (J0:(LT)->Int->OS S) (l:LT) (depth c0:Int) (c1:Tm):OS S:=J0 ([]:LT) 0
def Jd (hd:eK S) (k:Nat) (l:LT) (depth c0:Int) (c1:Tm) (Y:LT×Int->OS S):OS S:=Ns hd k Y (fun out10 v17=>pK hd k Y c0 c1 l depth k out10 v17) l depth c0 c1
def BN (hd:eK S) (k:Nat) (Y:Tm×Int->OS S) (c0:Int) (t:Tm) (r1:LC×Int) (r2:LT×Int) (depth:Int) (rec0:Int->(LB)->Int->OS S) (dH:Int) (b8_5:LB) (v55:Int):OS S:=ac (decide ((v55:Int)<(t.sys.length:Int))) (ag (ai t.sys v55) fun x3=>ab k (tP k x3.face depth c0) fun r4=>ac (!(r4.2==0)) (Y ((Tm.mk 0 0 au [] [] []),r4.2)) (ac ((r4.1.length:Int)==0) (rec0 dH b8_5 (af .i64 (v55+1))) (ab k (Jc hd k x3.kids depth c0 dH) fun r5=>ac (!(r5.2==0)) (Y ((Tm.mk 0 0 au [] [] []),r5.2)) (ag (aS 1099511627776 b8_5.length [(Br.mk r4.1 r5.1)].length) fun x6=>rec0 dH (b8_5++[(Br.mk r4.1 r5.1)]) (af .i64 (v55+1)))))) (Y ((Tm.mk t.kind t.n t.name r1.1 r2.1 b8_5),0))
def jT (hd:eK S) (k:Nat) (Y:Tm×Int->OS S) (c0:Int) (t:Tm) (r1:LC×Int) (r2:LT×Int) (depth:Int):Nat->Int->(LB)->Int->OS S
 |0=>fun _ _ _=> .none
 |m+1=>fun dH b8_5 v55=>BN hd k Y c0 t r1 r2 depth (jT hd k Y c0 t r1 r2 depth m) dH b8_5 v55
def Nw (hd:eK S) (k:Nat) (Y:Tm×Int->OS S) (J0:(LC×Int)->(LT×Int)->Int->(LB)->Int->OS S) (t:Tm) (depth c0:Int):OS S:=ab k (Du k (ae t) depth c0) fun r1=>ac (!(r1.2==0)) (Y ((Tm.mk 0 0 au [] [] []),r1.2)) (ab k (Jd hd k t.kids depth c0 (ae t)) fun r2=>ac (!(r2.2==0)) (Y ((Tm.mk 0 0 au [] [] []),r2.2)) (ac (t.kind==15) (J0 r1 r2 1 ([]:LB) 0) (J0 r1 r2 0 ([]:LB) 0)))
def gE:Nat->Tm->Int->Int->(Tm×Int->OS S)->OS S
 |0=>fun _ _ _ _=> .none
 |k+1=>fun t depth c0 Y=>Nw (gE k) k Y (fun r1 r2 dH b8_5 v55=>jT (gE k) k Y c0 t r1 r2 depth k dH b8_5 v55) t depth c0
def ny (k:Nat) (t:Tm) (i:Int) (a_r:LC) (Y:Tm×Int->OS S):OS S:=ab k (Dv k (ae t) i a_r) fun r1=>ac (!(r1==0)) (Y ((Tm.mk 0 0 au [] [] []),r1)) (ab k (nz k a_r i 1) fun r2=>ac (!(r2.2==0)) (Y ((Tm.mk 0 0 au [] [] []),r2.2)) (ab k (I_ k i r2.1) fun r3=>gT k (ae t) 0 r3.1 r3.2 fun r4=>ac (!(r4.2==0)) (Y ((Tm.mk 0 0 au [] [] []),r4.2)) (ab k (I9 k i) fun r5=>gE k (ae r4.1) 0 r5 fun r6=>Y ((ae r6.1),r6.2))))
def o9 (k:Nat) (line:Tm) (a_r:LC) (c0:Int) (Y:Tm×Int->OS S):OS S:=ab k (eT k c0) fun r1=>ac (!r1) (Y ((Tm.mk 0 0 au [] [] []),c0)) (ab k (pc k (ae line) 1 2) fun r2=>ab k (mm k r2.2 c0) fun r3=>ab k (eT k r3) fun r4=>ac (!r4) (Y ((Tm.mk 0 0 au [] [] []),r3)) (ab k (ny k (ae r2.1) 0 a_r) fun r5=>ab k (mm k r5.2 r3) fun r6=>Y ((ae r5.1),r6)))
def eB (k:Nat) (t:Tm) (vars dims c0:Int) (Y:Tm×Int->OS S):OS S:=ab k (eT k c0) fun r1=>ac (!r1) (Y ((Tm.mk 0 0 au [] [] []),c0)) (ab k (pb k (ae t) vars dims) fun r2=>ab k (mm k r2.2 c0) fun r3=>Y ((ae r2.1),r3))
def c8 (k:Nat) (kind:Int) (kids:LT) (Y:Int×Int×BA×LT->OS S):OS S:=Y (kind,0,au,kids)
def g_ (k:Nat) (t:Tm) (c0:Int) (Y:Tm×Int×Int->OS S):OS S:=ab k (eT k c0) fun r1=>ac (r1) (ab k (ji k (ae t)) fun r2=>ab k (mm k r2 c0) fun r3=>ab k (eT k r3) fun r4=>ac (!r4) (Y ((Tm.mk 0 0 au [] [] []),r3,r3)) (Y ((ae t),0,r3))) (ab k (eT k c0) fun r5=>ac (!r5) (Y ((Tm.mk 0 0 au [] [] []),c0,c0)) (Y ((ae t),0,c0)))
def DX (k:Nat) (c0:Int) (c1:Tm) (c2:Int) (Y:Pan Int Tm->OS S):OS S:=eZ k c0 0 (ae c1) (if 2000000000<c2 then 2000000000 else c2) 0 fun r2=>Pan.elim r2 (fun r2=>Y (.ok (ae r2))) (fun e3=>Y (.pan e3))
def B8 (k:Nat) (Y:Tm×Int->OS S) (c0:Int) (c1:Tm) (c2:Int) (numbers:List Int) (rec0:Int->OS S) (v19:Int):OS S:=ac (decide ((v19:Int)<(numbers.length:Int))) (ag (ai numbers v19) fun x2=>ac (decide ((x2:Int)<0)) (Y ((Tm.mk 0 0 au [] [] []),2)) (rec0 (af .i64 (v19+1)))) (ab k (DX k c0 (ae c1) c2) fun r4=>Pan.elim r4 (fun r4=>Y ((ae r4),0)) (fun e5=>Y ((Tm.mk 0 0 au [] [] []),e5)))
def rR (k:Nat) (Y:Tm×Int->OS S) (c0:Int) (c1:Tm) (c2:Int) (numbers:List Int):Nat->Int->OS S
 |0=>fun _=> .none
 |m+1=>fun v19=>B8 k Y c0 c1 c2 numbers (rR k Y c0 c1 c2 numbers m) v19
def G6 (k:Nat) (Y:Tm×Int->OS S) (J0:Int->OS S) (t:Tm) (numbers:List Int) (c0:Int) (c1:Tm) (c2:Int):OS S:=ab k (ji k (ae t)) fun r1=>ac (!(r1==0)) (Y ((Tm.mk 0 0 au [] [] []),r1)) (J0 0)
def DZ (k:Nat) (t:Tm) (numbers:List Int) (c0:Int) (c1:Tm) (c2:Int) (Y:Tm×Int->OS S):OS S:=G6 k Y (fun v19=>rR k Y c0 c1 c2 numbers k v19) t numbers c0 c1 c2
def tZ (k:Nat) (t:Tm) (a_from a_by:Int) (Y:Tm×Int->OS S):OS S:=ab k (DZ k (ae t) [a_from,a_by,af .i64 (1000000-a_by)] a_by (ae t) a_from) fun r1=>Y ((ae r1.1),r1.2)
def D4 (k:Nat) (t:Tm) (vars dims c0:Int) (Y:Tm×Int->OS S):OS S:=ab k (eb k c0) fun r1=>ac (!r1) (Y ((Tm.mk 0 0 au [] [] []),c0)) (ab k (tZ k (ae t) 1 vars) fun r2=>ab k (jh k (ae r2.1) r2.2 c0) fun r3=>ab k (eb k r3.2) fun r4=>ac (!r4) (Y ((Tm.mk 0 0 au [] [] []),r3.2)) (ab k (pc k (ae r3.1) 0 dims) fun r5=>ab k (jh k (ae r5.1) r5.2 r3.2) fun r6=>Y ((ae r6.1),r6.2)))
abbrev fZ (S:Type):=Tm->(Int->OS S)->OS S
def zc (hd:fZ S) (k:Nat) (a_k:Tm) (p p' c0:Int) (Y:Bool×Int->OS S):OS S:=hd (ae a_k) fun r1=>Y (true,af .i64 (c0+r1))
def C2 (hd:fZ S) (k:Nat) (Y:Bool×Int->OS S) (t:Tm) (v42:Int) (x4:(Br Tm)) (more9:Int) (rec1:Int->Int->Int->OS S) (rec2:Int->Int->OS S) (e0_0'' v49:Int):OS S:=ac (decide ((v49:Int)<(x4.kids.length:Int))) (ag (ai x4.kids v49) fun x5=>ab k (zc hd k (ae x5) 0 more9 e0_0'') fun r6=>ac (!r6.1) (Y (false,r6.2)) (rec2 r6.2 (af .i64 (v49+1)))) (rec1 e0_0'' (af .i64 (v42+1)) more9)
def sz (hd:fZ S) (k:Nat) (Y:Bool×Int->OS S) (rec1:Int->Int->Int->OS S) (t:Tm) (v42:Int) (x4:(Br Tm)) (more9:Int):Nat->Int->Int->OS S
 |0=>fun _ _=> .none
 |m+1=>fun e0_0'' v49=>C2 hd k Y t v42 x4 more9 rec1 (sz hd k Y rec1 t v42 x4 more9 m) e0_0'' v49
def yd (hd:fZ S) (k:Nat) (Y:Bool×Int->OS S) (t:Tm) (J2:Int->(Br Tm)->Int->Int->Int->OS S) (rec1:Int->Int->Int->OS S) (e0_0' v42 more9:Int):OS S:=ac (decide ((v42:Int)<(t.sys.length:Int))) (ag (ai t.sys v42) fun x4=>J2 v42 x4 more9 e0_0' 0) (Y (true,e0_0'))
def ov (hd:fZ S) (k:Nat) (Y:Bool×Int->OS S) (t:Tm):Nat->Int->Int->Int->OS S
 |0=>fun _ _ _=> .none
 |m+1=>fun e0_0' v42 more9=>yd hd k Y t (fun v42 x4 more9 e0_0'' v49=>sz hd k Y (ov hd k Y t m) t v42 x4 more9 k e0_0'' v49) (ov hd k Y t m) e0_0' v42 more9
def yc (hd:fZ S) (k:Nat) (Y:Bool×Int->OS S) (t:Tm) (J1:Int->Int->Int->OS S) (rec0:Int->Int->OS S) (bu v17:Int):OS S:=ac (decide ((v17:Int)<(t.kids.length:Int))) (ag (ai t.kids v17) fun x1=>ab k (kA k t.kind v17) fun r2=>ab k (zc hd k (ae x1) r2.1 r2.2 bu) fun r3=>ac (!r3.1) (Y (false,r3.2)) (rec0 r3.2 (af .i64 (v17+1)))) (ac (t.kind==15) (J1 bu 0 1) (J1 bu 0 0))
def vK (hd:fZ S) (k:Nat) (Y:Bool×Int->OS S) (t:Tm):Nat->Int->Int->OS S
 |0=>fun _ _=> .none
 |m+1=>fun bu v17=>yc hd k Y t (fun e0_0' v42 more9=>ov hd k Y t k e0_0' v42 more9) (vK hd k Y t m) bu v17
def OO (hd:fZ S) (k:Nat) (Y:Bool×Int->OS S) (J0:Int->Int->OS S) (t:Tm) (c0:Int):OS S:=J0 c0 0
def Jz (hd:fZ S) (k:Nat) (t:Tm) (c0:Int) (Y:Bool×Int->OS S):OS S:=OO hd k Y (fun bu v17=>vK hd k Y t k bu v17) t c0
def Y4 (hd:fZ S) (k:Nat) (Y:Int->OS S) (t:Tm):OS S:=ab k (Jz hd k (ae t) 1) fun r1=>Y r1.2
def nH:Nat->Tm->(Int->OS S)->OS S
 |0=>fun _ _=> .none
 |k+1=>fun t Y=>Y4 (nH k) k Y t
abbrev jD (S:Type):=Tm->Int->(Int->OS S)->OS S
def Cb (hd:jD S) (k:Nat) (Y:Int->OS S) (a_n:Int) (t:Tm) (v49:Int) (x4:(Br Tm)) (rec2:Int->Int->OS S) (rec3:Int->Int->OS S) (sum5'' v56:Int):OS S:=ac (decide ((v56:Int)<(x4.kids.length:Int))) (ag (ai x4.kids v56) fun x5=>hd (ae x5) a_n fun r6=>rec3 (af .i64 (sum5''+r6)) (af .i64 (v56+1))) (rec2 (af .i64 (v49+1)) sum5'')
def rU (hd:jD S) (k:Nat) (Y:Int->OS S) (rec2:Int->Int->OS S) (a_n:Int) (t:Tm) (v49:Int) (x4:(Br Tm)):Nat->Int->Int->OS S
 |0=>fun _ _=> .none
 |m+1=>fun sum5'' v56=>Cb hd k Y a_n t v49 x4 rec2 (rU hd k Y rec2 a_n t v49 x4 m) sum5'' v56
def xl (hd:jD S) (k:Nat) (Y:Int->OS S) (a_n:Int) (t:Tm) (J3:Int->(Br Tm)->Int->Int->OS S) (rec2:Int->Int->OS S) (v49 sum5':Int):OS S:=ac (decide ((v49:Int)<(t.sys.length:Int))) (ag (ai t.sys v49) fun x4=>J3 v49 x4 sum5' 0) (Y sum5')
def n4 (hd:jD S) (k:Nat) (Y:Int->OS S) (a_n:Int) (t:Tm):Nat->Int->Int->OS S
 |0=>fun _ _=> .none
 |m+1=>fun v49 sum5'=>xl hd k Y a_n t (fun v49 x4 sum5'' v56=>rU hd k Y (n4 hd k Y a_n t m) a_n t v49 x4 k sum5'' v56) (n4 hd k Y a_n t m) v49 sum5'
def xk (hd:jD S) (k:Nat) (Y:Int->OS S) (t:Tm) (a_n:Int) (J2:Int->Int->OS S) (rec1:Int->Int->OS S) (v26 sum5:Int):OS S:=ac (decide ((v26:Int)<(t.kids.length:Int))) (ag (ai t.kids v26) fun x1=>ab k (kA k t.kind v26) fun r2=>hd (ae x1) (af .i64 (a_n+r2.1)) fun r3=>rec1 (af .i64 (v26+1)) (af .i64 (sum5+r3))) (J2 0 sum5)
def rT (hd:jD S) (k:Nat) (Y:Int->OS S) (t:Tm) (a_n:Int):Nat->Int->Int->OS S
 |0=>fun _ _=> .none
 |m+1=>fun v26 sum5=>xk hd k Y t a_n (fun v49 sum5'=>n4 hd k Y a_n t k v49 sum5') (rT hd k Y t a_n m) v26 sum5
def Ca (hd:jD S) (k:Nat) (Y:Int->OS S) (t:Tm) (a_n:Int) (J1:Int->Int->OS S):OS S:=J1 0 0
def Fy (hd:jD S) (k:Nat) (Y:Int->OS S) (t:Tm) (a_n:Int):Nat->OS S
 |0=> .none
 |_+1=>Ca hd k Y t a_n (fun v26 sum5=>rT hd k Y t a_n k v26 sum5)
def G8 (hd:jD S) (k:Nat) (Y:Int->OS S) (J0:OS S) (t:Tm) (a_n:Int):OS S:=ac (t.kind==1) (ac (t.n==a_n) (Y 1) (J0)) (J0)
def kr:Nat->Tm->Int->(Int->OS S)->OS S
 |0=>fun _ _ _=> .none
 |k+1=>fun t a_n Y=>G8 (kr k) k Y (Fy (kr k) k Y t a_n k) t a_n
def Ec (k:Nat) (t:Tm) (Y:Int->OS S):OS S:=ac (t.kind==15) (Y 1) (Y 0)
abbrev kZ (S:Type):=Tm->Int->Tm->Int->Int->(Pan Int Tm->OS S)->OS S
def Cc (hd:kZ S) (k:Nat) (Y:Pan Int Tm->OS S) (t:Tm) (b13_4:LT) (b13_5:LB) (x9:(Br Tm)) (u:Tm) (a_n vars dims v99:Int) (rec1:(LB)->Int->OS S) (rec2:(LT)->Int->OS S) (b20_1:LT) (v110:Int):OS S:=ac (decide ((v110:Int)<(x9.kids.length:Int))) (ag (ai x9.kids v110) fun x11=>ab k (Ec k (ae t)) fun r12=>hd (ae x11) a_n (ae u) vars (af .i64 (dims+r12)) fun r14=>Pan.elim r14 (fun r14=>ag (aS 1099511627776 b20_1.length [(ae r14)].length) fun x16=>rec2 (b20_1++[(ae r14)]) (af .i64 (v110+1))) (fun e15=>Y (.pan e15))) (ag (aS 1099511627776 b13_5.length [(Br.mk x9.face b20_1)].length) fun x17=>rec1 (b13_5++[(Br.mk x9.face b20_1)]) (af .i64 (v99+1)))
def rV (hd:kZ S) (k:Nat) (Y:Pan Int Tm->OS S) (rec1:(LB)->Int->OS S) (t:Tm) (b13_4:LT) (b13_5:LB) (x9:(Br Tm)) (u:Tm) (a_n vars dims v99:Int):Nat->(LT)->Int->OS S
 |0=>fun _ _=> .none
 |m+1=>fun b20_1 v110=>Cc hd k Y t b13_4 b13_5 x9 u a_n vars dims v99 rec1 (rV hd k Y rec1 t b13_4 b13_5 x9 u a_n vars dims v99 m) b20_1 v110
def xo (hd:kZ S) (k:Nat) (Y:Pan Int Tm->OS S) (t:Tm) (b13_4:LT) (u:Tm) (a_n vars dims:Int) (J2:(LB)->(Br Tm)->Int->(LT)->Int->OS S) (rec1:(LB)->Int->OS S) (b13_5:LB) (v99:Int):OS S:=ac (decide ((v99:Int)<(t.sys.length:Int))) (ag (ai t.sys v99) fun x9=>ag (aS 1099511627776 0 x9.face.length) fun x10=>J2 b13_5 x9 v99 ([]:LT) 0) (Y (.ok (Tm.mk t.kind 0 t.name t.r b13_4 b13_5)))
def n5 (hd:kZ S) (k:Nat) (Y:Pan Int Tm->OS S) (t:Tm) (b13_4:LT) (u:Tm) (a_n vars dims:Int):Nat->(LB)->Int->OS S
 |0=>fun _ _=> .none
 |m+1=>fun b13_5 v99=>xo hd k Y t b13_4 u a_n vars dims (fun b13_5 x9 v99 b20_1 v110=>rV hd k Y (n5 hd k Y t b13_4 u a_n vars dims m) t b13_4 b13_5 x9 u a_n vars dims v99 k b20_1 v110) (n5 hd k Y t b13_4 u a_n vars dims m) b13_5 v99
def xm (hd:kZ S) (k:Nat) (Y:Pan Int Tm->OS S) (t u:Tm) (a_n vars dims:Int) (J1:(LT)->(LB)->Int->OS S) (rec0:(LT)->Int->OS S) (b13_4:LT) (v68:Int):OS S:=ac (decide ((v68:Int)<(t.kids.length:Int))) (ag (ai t.kids v68) fun x3=>ab k (kA k t.kind v68) fun r4=>hd (ae x3) a_n (ae u) (af .i64 (vars+r4.1)) (af .i64 (dims+r4.2)) fun r6=>Pan.elim r6 (fun r6=>ag (aS 1099511627776 b13_4.length [(ae r6)].length) fun x8=>rec0 (b13_4++[(ae r6)]) (af .i64 (v68+1))) (fun e7=>Y (.pan e7))) (J1 b13_4 ([]:LB) 0)
def u9 (hd:kZ S) (k:Nat) (Y:Pan Int Tm->OS S) (t u:Tm) (a_n vars dims:Int):Nat->(LT)->Int->OS S
 |0=>fun _ _=> .none
 |m+1=>fun b13_4 v68=>xm hd k Y t u a_n vars dims (fun b13_4 b13_5 v99=>n5 hd k Y t b13_4 u a_n vars dims k b13_5 v99) (u9 hd k Y t u a_n vars dims m) b13_4 v68
def NQ (hd:kZ S) (k:Nat) (Y:Pan Int Tm->OS S) (J0:(LT)->Int->OS S) (t:Tm) (a_n:Int) (u:Tm) (vars dims:Int):OS S:=ac (t.kind==1) (ac (t.n==(af .i64 (a_n+vars))) (ab k (pb k (ae u) vars dims) fun r1=>ac (!(r1.2==0)) (Y (.pan r1.2)) (Y (.ok (ae r1.1)))) (ac (decide ((t.n:Int)>(af .i64 (a_n+vars)))) (Y (.ok (Tm.mk 1 (af .i64 (t.n-1)) au [] [] []))) (Y (.ok (ae t))))) (ag (aS 1099511627776 0 t.r.length) fun x2=>J0 ([]:LT) 0)
def ku:Nat->Tm->Int->Tm->Int->Int->(Pan Int Tm->OS S)->OS S
 |0=>fun _ _ _ _ _ _=> .none
 |k+1=>fun t a_n u vars dims Y=>NQ (ku k) k Y (fun b13_4 v68=>u9 (ku k) k Y t u a_n vars dims k b13_4 v68) t a_n u vars dims
abbrev fY (S:Type):=Tm->(Int->OS S)->OS S
def zb (hd:fY S) (k:Nat) (a_k:Tm) (p p' c0:Int) (Y:Bool×Int->OS S):OS S:=hd (ae a_k) fun r1=>Y (true,if r1>c0 then r1 else c0)
def C3 (hd:fY S) (k:Nat) (Y:Bool×Int->OS S) (t:Tm) (v42:Int) (x4:(Br Tm)) (more9:Int) (rec1:Int->Int->Int->OS S) (rec2:Int->Int->OS S) (e0_0'' v49:Int):OS S:=ac (decide ((v49:Int)<(x4.kids.length:Int))) (ag (ai x4.kids v49) fun x5=>ab k (zb hd k (ae x5) 0 more9 e0_0'') fun r6=>ac (!r6.1) (Y (false,r6.2)) (rec2 r6.2 (af .i64 (v49+1)))) (rec1 e0_0'' (af .i64 (v42+1)) more9)
def sA (hd:fY S) (k:Nat) (Y:Bool×Int->OS S) (rec1:Int->Int->Int->OS S) (t:Tm) (v42:Int) (x4:(Br Tm)) (more9:Int):Nat->Int->Int->OS S
 |0=>fun _ _=> .none
 |m+1=>fun e0_0'' v49=>C3 hd k Y t v42 x4 more9 rec1 (sA hd k Y rec1 t v42 x4 more9 m) e0_0'' v49
def yf (hd:fY S) (k:Nat) (Y:Bool×Int->OS S) (t:Tm) (J2:Int->(Br Tm)->Int->Int->Int->OS S) (rec1:Int->Int->Int->OS S) (e0_0' v42 more9:Int):OS S:=ac (decide ((v42:Int)<(t.sys.length:Int))) (ag (ai t.sys v42) fun x4=>J2 v42 x4 more9 e0_0' 0) (Y (true,e0_0'))
def ow (hd:fY S) (k:Nat) (Y:Bool×Int->OS S) (t:Tm):Nat->Int->Int->Int->OS S
 |0=>fun _ _ _=> .none
 |m+1=>fun e0_0' v42 more9=>yf hd k Y t (fun v42 x4 more9 e0_0'' v49=>sA hd k Y (ow hd k Y t m) t v42 x4 more9 k e0_0'' v49) (ow hd k Y t m) e0_0' v42 more9
def ye (hd:fY S) (k:Nat) (Y:Bool×Int->OS S) (t:Tm) (J1:Int->Int->Int->OS S) (rec0:Int->Int->OS S) (bu v17:Int):OS S:=ac (decide ((v17:Int)<(t.kids.length:Int))) (ag (ai t.kids v17) fun x1=>ab k (kA k t.kind v17) fun r2=>ab k (zb hd k (ae x1) r2.1 r2.2 bu) fun r3=>ac (!r3.1) (Y (false,r3.2)) (rec0 r3.2 (af .i64 (v17+1)))) (ac (t.kind==15) (J1 bu 0 1) (J1 bu 0 0))
def vL (hd:fY S) (k:Nat) (Y:Bool×Int->OS S) (t:Tm):Nat->Int->Int->OS S
 |0=>fun _ _=> .none
 |m+1=>fun bu v17=>ye hd k Y t (fun e0_0' v42 more9=>ow hd k Y t k e0_0' v42 more9) (vL hd k Y t m) bu v17
def OP (hd:fY S) (k:Nat) (Y:Bool×Int->OS S) (J0:Int->Int->OS S) (t:Tm) (c0:Int):OS S:=J0 c0 0
def JA (hd:fY S) (k:Nat) (t:Tm) (c0:Int) (Y:Bool×Int->OS S):OS S:=OP hd k Y (fun bu v17=>vL hd k Y t k bu v17) t c0
def Y3 (hd:fY S) (k:Nat) (Y:Int->OS S) (t:Tm):OS S:=ab k (JA hd k (ae t) 0) fun r1=>Y (af .i64 (r1.2+1))
def nG:Nat->Tm->(Int->OS S)->OS S
 |0=>fun _ _=> .none
 |k+1=>fun t Y=>Y3 (nG k) k Y t
def Eb (k:Nat) (t:Tm) (a_n:Int) (u:Tm) (Y:Tm×Int->OS S):OS S:=ab k (ji k (ae t)) fun r1=>ac (!(r1==0)) (Y ((Tm.mk 0 0 au [] [] []),r1)) (ab k (ji k (ae u)) fun r2=>ac (!(r2==0)) (Y ((Tm.mk 0 0 au [] [] []),r2)) (ac (decide ((a_n:Int)<0)) (Y ((Tm.mk 0 0 au [] [] []),2)) (nH k (ae t) fun r3=>kr k (ae t) (if 1099511627776<a_n then 1099511627776 else a_n) fun r4=>nH k (ae u) fun r5=>ac (decide ((af .i64 (r3+(af .i64 (r4*(af .i64 (r5-1))))):Int)>20000)) (Y ((Tm.mk 0 0 au [] [] []),221)) (ku k (ae t) (if 1099511627776<a_n then 1099511627776 else a_n) (ae u) 0 0 fun r7=>Pan.elim r7 (fun r7=>nG k (ae r7) fun r9=>ac (decide ((r9:Int)>200)) (Y ((Tm.mk 0 0 au [] [] []),62)) (Y ((ae r7),0))) (fun e8=>Y ((Tm.mk 0 0 au [] [] []),e8))))))
def D9 (k:Nat) (t u:Tm) (c0:Int) (Y:Tm×Int->OS S):OS S:=ab k (eb k c0) fun r1=>ac (!r1) (Y ((Tm.mk 0 0 au [] [] []),c0)) (ab k (Eb k (ae t) 0 (ae u)) fun r2=>ab k (jh k (ae r2.1) r2.2 c0) fun r3=>Y ((ae r3.1),r3.2))
def Ea (k:Nat) (t:Tm) (a_r:LC) (c0:Int) (Y:Tm×Int->OS S):OS S:=ab k (eb k c0) fun r1=>ac (!r1) (Y ((Tm.mk 0 0 au [] [] []),c0)) (ab k (ny k (ae t) 0 a_r) fun r2=>ab k (jh k (ae r2.1) r2.2 c0) fun r3=>Y ((ae r3.1),r3.2))
def fJ (k:Nat) (kind:Int) (kids:LT) (Y:Int×Int×BA×LT->OS S):OS S:=Y (kind,0,au,kids)
def yF (k:Nat) (kind:Int) (a_r:LC) (kids:LT) (Y:Int×Int×BA×LC×LT->OS S):OS S:=Y (kind,0,au,a_r,kids)
def D_ (k:Nat) (f:LC) (a_by c0:Int) (Y:LC×Int->OS S):OS S:=ab k (eb k c0) fun r1=>ac (!r1) (Y (([]:LC),c0)) (ab k (nz k f 0 a_by) fun r2=>ab k (jh k (Tm.mk 0 0 au [] [] []) r2.2 c0) fun r3=>Y (r2.1,r3.2))
def gh (k:Nat) (f:LC) (kids:LT) (Y:(Br Tm)->OS S):OS S:=Y (Br.mk f kids)
def D8 (k:Nat) (t:Tm) (a_by c0:Int) (Y:Tm×Int->OS S):OS S:=ab k (eb k c0) fun r1=>ac (!r1) (Y ((Tm.mk 0 0 au [] [] []),c0)) (ab k (pc k (ae t) 1 a_by) fun r2=>ab k (jh k (ae r2.1) r2.2 c0) fun r3=>Y ((ae r3.1),r3.2))
def tN (k:Nat) (sys:LB) (Y:Int×Int×BA×LT×LB->OS S):OS S:=ab k (c8 k 3 ([]:LT)) fun r1=>ab k (c8 k 3 ([]:LT)) fun r2=>Y (15,0,au,[(Tm.mk r1.1 r1.2.1 r1.2.2.1 [] r1.2.2.2 []),(Tm.mk r2.1 r2.2.1 r2.2.2.1 [] r2.2.2.2 [])],sys)
def Dk (k:Nat) (line:Tm) (c0:Int) (Y:Tm×Int->OS S):OS S:=ab k (eT k c0) fun r1=>ac (!r1) (Y ((Tm.mk 0 0 au [] [] []),c0)) (ab k (ri k) fun r2=>ab k (ny k (ae line) 0 r2) fun r3=>ab k (mm k r3.2 c0) fun r4=>Y ((ae r3.1),r4))
def tu (k:Nat) (Y:Tm×Int->OS S) (r3:Tm) (r9:Int×Int×BA×LT) (r6:Tm) (rec0:Int->(LB)->Int->OS S) (dt:Int) (b9_5:LB) (v38:Int):OS S:=ac (decide ((v38:Int)<(r6.sys.length:Int))) (ag (ai r6.sys v38) fun x10=>ab k (eT k dt) fun r11=>ac (!r11) (ab k (g_ k (Tm.mk r9.1 r9.2.1 r9.2.2.1 [] r9.2.2.2 b9_5) dt) fun r12=>Y ((ae r12.1),r12.2.1)) (ab k (o9 k (ae r3) [(Cl.mk 1 0),(Cl.mk 2 0)] dt) fun r13=>ag (ai x10.kids 0) fun x14=>ab k (c8 k 14 [(ae r13.1),(ae x14)]) fun r15=>ag (aS 1099511627776 b9_5.length [(Br.mk x10.face [(Tm.mk r15.1 r15.2.1 r15.2.2.1 [(Cl.mk 1 0)] r15.2.2.2 [])])].length) fun x16=>rec0 r13.2 (b9_5++[(Br.mk x10.face [(Tm.mk r15.1 r15.2.1 r15.2.2.1 [(Cl.mk 1 0)] r15.2.2.2 [])])]) (af .i64 (v38+1)))) (ab k (g_ k (Tm.mk r9.1 r9.2.1 r9.2.2.1 [] r9.2.2.2 b9_5) dt) fun r17=>Y ((ae r17.1),r17.2.1))
def nZ (k:Nat) (Y:Tm×Int->OS S) (r3:Tm) (r9:Int×Int×BA×LT) (r6:Tm):Nat->Int->(LB)->Int->OS S
 |0=>fun _ _ _=> .none
 |m+1=>fun dt b9_5 v38=>tu k Y r3 r9 r6 (nZ k Y r3 r9 r6 m) dt b9_5 v38
def Nl (k:Nat) (Y:Tm×Int->OS S) (J0:Tm->(Int×Int×BA×LT)->Tm->Int->(LB)->Int->OS S) (line a:Tm) (sys:LB):OS S:=ab k (tN k sys) fun r1=>ab k (o8 k [(ae line),(ae a),(Tm.mk r1.1 r1.2.1 r1.2.2.1 [] r1.2.2.2.1 r1.2.2.2.2)]) fun r2=>fc k (ae line) fun r3=>fc k (ae a) fun r4=>ab k (tN k sys) fun r5=>fc k (Tm.mk r5.1 r5.2.1 r5.2.2.1 [] r5.2.2.2.1 r5.2.2.2.2) fun r6=>ab k (Dk k (ae r3) r2) fun r7=>ab k (c8 k 14 [(ae r3),(ae r4)]) fun r8=>ab k (c8 k 15 [(ae r7.1),(Tm.mk r8.1 r8.2.1 r8.2.2.1 [] r8.2.2.2 [])]) fun r9=>J0 r3 r9 r6 r7.2 ([]:LB) 0
def Dg (k:Nat) (line a:Tm) (sys:LB) (Y:Tm×Int->OS S):OS S:=Nl k Y (fun r3 r9 r6 dt b9_5 v38=>nZ k Y r3 r9 r6 k dt b9_5 v38) line a sys
def D5 (k:Nat) (line a:Tm) (sys:LB) (c0:Int) (Y:Tm×Int->OS S):OS S:=ab k (eb k c0) fun r1=>ac (!r1) (Y ((Tm.mk 0 0 au [] [] []),c0)) (ab k (Dg k (ae line) (ae a) sys) fun r2=>ab k (jh k (ae r2.1) r2.2 c0) fun r3=>Y ((ae r3.1),r3.2))
def D6 (k:Nat) (t:Tm) (c0:Int) (Y:Tm×Int->OS S):OS S:=ab k (ri k) fun r1=>ab k (Ea k (ae t) r1 c0) fun r2=>Y ((ae r2.1),r2.2)
def gi (k:Nat) (kind:Int) (l:LB) (kids:LT) (Y:Int×Int×BA×LT×LB->OS S):OS S:=Y (kind,0,au,kids,l)
def Jn (k:Nat) (b:(Br Tm)) (Y:(Br Tm)->OS S):OS S:=ag (ai b.kids 1) fun x1=>ab k (gh k b.face [(ae x1)]) fun r2=>Y r2
def B2 (k:Nat) (Y:LB->OS S) (l:LB) (rec0:Int->(LB)->OS S) (v10:Int) (out5:LB):OS S:=ac (decide ((v10:Int)<(l.length:Int))) (ag (ai l v10) fun x1=>ab k (Jn k x1) fun r2=>ag (aS 1099511627776 out5.length [r2].length) fun x3=>rec0 (af .i64 (v10+1)) (out5++[r2])) (Y out5)
def uZ (k:Nat) (Y:LB->OS S) (l:LB):Nat->Int->(LB)->OS S
 |0=>fun _ _=> .none
 |m+1=>fun v10 out5=>B2 k Y l (uZ k Y l m) v10 out5
def NK (k:Nat) (Y:LB->OS S) (J0:Int->(LB)->OS S) (l:LB):OS S:=J0 0 ([]:LB)
def Jl (k:Nat) (l:LB) (Y:LB->OS S):OS S:=NK k Y (fun v10 out5=>uZ k Y l k v10 out5) l
def DN (k:Nat) (g:Tm) (Y:LB->OS S):OS S:=ab k (Jl k g.sys) fun r1=>Y r1
def rk (k:Nat) (a:Tm) (es:LB) (Y:Int×Int×BA×LT×LB->OS S):OS S:=ab k (gi k 18 es [(ae a)]) fun r1=>Y (r1.1,r1.2.1,r1.2.2.1,r1.2.2.2.1,r1.2.2.2.2)
def Jm (k:Nat) (a_e:Tm) (Y:Int×Int×BA×LT->OS S):OS S:=ab k (fJ k 9 [(ae a_e)]) fun r1=>Y (r1.1,r1.2.1,r1.2.2.1,r1.2.2.2)
def iO (k:Nat) (a_n:Int) (Y:Int×Int×BA->OS S):OS S:=Y (1,a_n,au)
def ym (k:Nat) (t a f y:Tm) (c0:Int) (Y:Int×Int×BA×LT×Int->OS S):OS S:=ab k (eB k (ae a) 1 1 c0) fun r1=>ab k (eB k (ae y) 1 0 r1.2) fun r2=>ab k (eB k (ae f) 1 0 r2.2) fun r3=>ab k (iO k 0) fun r4=>ab k (c8 k 6 [(ae r3.1),(Tm.mk r4.1 r4.2.1 r4.2.2 [] [] [])]) fun r5=>ab k (c8 k 11 [(ae r1.1),(ae r2.1),(Tm.mk r5.1 r5.2.1 r5.2.2.1 [] r5.2.2.2 [])]) fun r6=>ab k (c8 k 7 [(ae t),(Tm.mk r6.1 r6.2.1 r6.2.2.1 [] r6.2.2.2 [])]) fun r7=>Y (r7.1,r7.2.1,r7.2.2.1,r7.2.2.2,r3.2)
def tw (k:Nat) (Y:Bool->OS S) (a b:LC) (rec0:Int->OS S) (i5:Int):OS S:=ac (decide ((i5:Int)<(a.length:Int))) (ag (ai a i5) fun x1=>ag (ai b i5) fun x2=>ac (!((x1.pos==x2.pos)&&((x1.neg==x2.neg)&&true))) (Y false) (rec0 (af .i64 (i5+1)))) (Y true)
def n8 (k:Nat) (Y:Bool->OS S) (a b:LC):Nat->Int->OS S
 |0=>fun _=> .none
 |m+1=>fun i5=>tw k Y a b (n8 k Y a b m) i5
def G9 (k:Nat) (Y:Bool->OS S) (J0:Int->OS S) (a b:LC):OS S:=ac (!((a.length:Int)==(b.length:Int))) (Y false) (J0 0)
def ph (k:Nat) (a b:LC) (Y:Bool->OS S):OS S:=G9 k Y (fun i5=>n8 k Y a b k i5) a b
abbrev iD (S:Type):=Tm->Tm->(Bool->OS S)->OS S
def CH (hd:iD S) (k:Nat) (Y:Bool->OS S) (a b:LT) (rec0:Int->OS S) (i5:Int):OS S:=ac (decide ((i5:Int)<(a.length:Int))) (ag (ai a i5) fun x1=>ag (ai b i5) fun x2=>hd (ae x1) (ae x2) fun r3=>ac (!r3) (Y false) (rec0 (af .i64 (i5+1)))) (Y true)
def vu (hd:iD S) (k:Nat) (Y:Bool->OS S) (a b:LT):Nat->Int->OS S
 |0=>fun _=> .none
 |m+1=>fun i5=>CH hd k Y a b (vu hd k Y a b m) i5
def Ok (hd:iD S) (k:Nat) (Y:Bool->OS S) (J0:Int->OS S) (a b:LT):OS S:=ac (!((a.length:Int)==(b.length:Int))) (Y false) (J0 0)
def yN (hd:iD S) (k:Nat) (a b:LT) (Y:Bool->OS S):OS S:=Ok hd k Y (fun i5=>vu hd k Y a b k i5) a b
def CF (hd:iD S) (k:Nat) (Y:Bool->OS S) (a b:Tm) (rec0:Int->OS S) (i5:Int):OS S:=ac (decide ((i5:Int)<(a.sys.length:Int))) (ag (ai a.sys i5) fun x3=>ag (ai b.sys i5) fun x4=>ab k (ph k x3.face x4.face) fun r5=>ac (!r5) (Y false) (ag (ai a.sys i5) fun x6=>ag (ai b.sys i5) fun x7=>ab k (yN hd k x6.kids x7.kids) fun r8=>ac (!r8) (Y false) (rec0 (af .i64 (i5+1))))) (Y true)
def vr (hd:iD S) (k:Nat) (Y:Bool->OS S) (a b:Tm):Nat->Int->OS S
 |0=>fun _=> .none
 |m+1=>fun i5=>CF hd k Y a b (vr hd k Y a b m) i5
def Oi (hd:iD S) (k:Nat) (Y:Bool->OS S) (J0:Int->OS S) (a b:Tm):OS S:=ac (!(a.kind==b.kind)) (Y false) (ac (!(a.n==b.n)) (Y false) (ac (!(a.name==b.name)) (Y false) (ab k (ph k a.r b.r) fun r1=>ac (!r1) (Y false) (ab k (yN hd k a.kids b.kids) fun r2=>ac (!r2) (Y false) (ac (!((a.sys.length:Int)==(b.sys.length:Int))) (Y false) (J0 0))))))
def gG:Nat->Tm->Tm->(Bool->OS S)->OS S
 |0=>fun _ _ _=> .none
 |k+1=>fun a b Y=>Oi (gG k) k Y (fun i5=>vr (gG k) k Y a b k i5) a b
abbrev la (S:Type):=Tm->(Tm->OS S)->OS S
def CD (hd:la S) (k:Nat) (Y:Tm->OS S) (t:Tm) (b3_4:LT) (b3_5:LB) (x5:(Br Tm)) (i5:Int) (rec1:(LB)->Int->OS S) (rec2:(LT)->Int->OS S) (b6_1:LT) (v7:Int):OS S:=ag (ai t.sys i5) fun x7=>ac (decide ((v7:Int)<(x7.kids.length:Int))) (ag (ai t.sys i5) fun x8=>ag (ai x8.kids v7) fun x9=>hd (ae x9) fun r10=>ag (aS 1099511627776 b6_1.length [(ae r10)].length) fun x11=>rec2 (b6_1++[(ae r10)]) (af .i64 (v7+1))) (ag (aS 1099511627776 b3_5.length [(Br.mk (([]:LC)++x5.face) b6_1)].length) fun x12=>rec1 (b3_5++[(Br.mk (([]:LC)++x5.face) b6_1)]) (af .i64 (i5+1)))
def sf (hd:la S) (k:Nat) (Y:Tm->OS S) (rec1:(LB)->Int->OS S) (t:Tm) (b3_4:LT) (b3_5:LB) (x5:(Br Tm)) (i5:Int):Nat->(LT)->Int->OS S
 |0=>fun _ _=> .none
 |m+1=>fun b6_1 v7=>CD hd k Y t b3_4 b3_5 x5 i5 rec1 (sf hd k Y rec1 t b3_4 b3_5 x5 i5 m) b6_1 v7
def xF (hd:la S) (k:Nat) (Y:Tm->OS S) (t:Tm) (b3_4:LT) (J2:(LB)->(Br Tm)->Int->(LT)->Int->OS S) (rec1:(LB)->Int->OS S) (b3_5:LB) (i5:Int):OS S:=ac (decide ((i5:Int)<(t.sys.length:Int))) (ag (ai t.sys i5) fun x5=>ag (aS 1099511627776 ([]:LC).length x5.face.length) fun x6=>J2 b3_5 x5 i5 ([]:LT) 0) (Y (Tm.mk t.kind t.n t.name (([]:LC)++t.r) b3_4 b3_5))
def oa (hd:la S) (k:Nat) (Y:Tm->OS S) (t:Tm) (b3_4:LT):Nat->(LB)->Int->OS S
 |0=>fun _ _=> .none
 |m+1=>fun b3_5 i5=>xF hd k Y t b3_4 (fun b3_5 x5 i5 b6_1 v7=>sf hd k Y (oa hd k Y t b3_4 m) t b3_4 b3_5 x5 i5 k b6_1 v7) (oa hd k Y t b3_4 m) b3_5 i5
def xE (hd:la S) (k:Nat) (Y:Tm->OS S) (t:Tm) (J1:(LT)->(LB)->Int->OS S) (rec0:(LT)->Int->OS S) (b3_4:LT) (i4:Int):OS S:=ac (decide ((i4:Int)<(t.kids.length:Int))) (ag (ai t.kids i4) fun x2=>hd (ae x2) fun r3=>ag (aS 1099511627776 b3_4.length [(ae r3)].length) fun x4=>rec0 (b3_4++[(ae r3)]) (af .i64 (i4+1))) (J1 b3_4 ([]:LB) 0)
def vq (hd:la S) (k:Nat) (Y:Tm->OS S) (t:Tm):Nat->(LT)->Int->OS S
 |0=>fun _ _=> .none
 |m+1=>fun b3_4 i4=>xE hd k Y t (fun b3_4 b3_5 i5=>oa hd k Y t b3_4 k b3_5 i5) (vq hd k Y t m) b3_4 i4
def Og (hd:la S) (k:Nat) (Y:Tm->OS S) (J0:(LT)->Int->OS S) (t:Tm):OS S:=ag (aS 1099511627776 ([]:LC).length t.r.length) fun x1=>J0 ([]:LT) 0
def mu:Nat->Tm->(Tm->OS S)->OS S
 |0=>fun _ _=> .none
 |k+1=>fun t Y=>Og (mu k) k Y (fun b3_4 i4=>vq (mu k) k Y t k b3_4 i4) t
abbrev lb (S:Type):=Tm->(Int->OS S)->OS S
def CE (hd:lb S) (k:Nat) (Y:Int->OS S) (t:Tm) (i6:Int) (rec1:Int->Int->OS S) (rec2:Int->Int->OS S) (most3'' v7:Int):OS S:=ag (ai t.sys i6) fun x3=>ac (decide ((v7:Int)<(x3.kids.length:Int))) (ag (ai t.sys i6) fun x4=>ag (ai x4.kids v7) fun x5=>hd (ae x5) fun r6=>ac (decide ((r6:Int)>most3'')) (rec2 r6 (af .i64 (v7+1))) (rec2 most3'' (af .i64 (v7+1)))) (rec1 most3'' (af .i64 (i6+1)))
def pV (hd:lb S) (k:Nat) (Y:Int->OS S) (rec1:Int->Int->OS S) (t:Tm) (i6:Int):Nat->Int->Int->OS S
 |0=>fun _ _=> .none
 |m+1=>fun most3'' v7=>CE hd k Y t i6 rec1 (pV hd k Y rec1 t i6 m) most3'' v7
def xH (hd:lb S) (k:Nat) (Y:Int->OS S) (t:Tm) (J2:Int->Int->Int->OS S) (rec1:Int->Int->OS S) (most3' i6:Int):OS S:=ac (decide ((i6:Int)<(t.sys.length:Int))) (J2 i6 most3' 0) (Y (af .i64 (most3'+1)))
def oe (hd:lb S) (k:Nat) (Y:Int->OS S) (t:Tm):Nat->Int->Int->OS S
 |0=>fun _ _=> .none
 |m+1=>fun most3' i6=>xH hd k Y t (fun i6 most3'' v7=>pV hd k Y (oe hd k Y t m) t i6 k most3'' v7) (oe hd k Y t m) most3' i6
def xG (hd:lb S) (k:Nat) (Y:Int->OS S) (t:Tm) (J1:Int->Int->OS S) (rec0:Int->Int->OS S) (most3 i4:Int):OS S:=ac (decide ((i4:Int)<(t.kids.length:Int))) (ag (ai t.kids i4) fun x1=>hd (ae x1) fun r2=>ac (decide ((r2:Int)>most3)) (rec0 r2 (af .i64 (i4+1))) (rec0 most3 (af .i64 (i4+1)))) (J1 most3 0)
def sg (hd:lb S) (k:Nat) (Y:Int->OS S) (t:Tm):Nat->Int->Int->OS S
 |0=>fun _ _=> .none
 |m+1=>fun most3 i4=>xG hd k Y t (fun most3' i6=>oe hd k Y t k most3' i6) (sg hd k Y t m) most3 i4
def Oh (hd:lb S) (k:Nat) (Y:Int->OS S) (J0:Int->Int->OS S) (t:Tm):OS S:=J0 0 0
def kz:Nat->Tm->(Int->OS S)->OS S
 |0=>fun _ _=> .none
 |k+1=>fun t Y=>Oh (kz k) k Y (fun most3 i4=>sg (kz k) k Y t k most3 i4) t
abbrev lc (S:Type):=Tm->(Int->OS S)->OS S
def CG (hd:lc S) (k:Nat) (Y:Int->OS S) (t:Tm) (i5:Int) (rec1:Int->Int->OS S) (rec2:Int->Int->OS S) (v3'' v6:Int):OS S:=ag (ai t.sys i5) fun x3=>ac (decide ((v6:Int)<(x3.kids.length:Int))) (ag (ai t.sys i5) fun x4=>ag (ai x4.kids v6) fun x5=>hd (ae x5) fun r6=>rec2 (af .i64 (v3''+r6)) (af .i64 (v6+1))) (rec1 v3'' (af .i64 (i5+1)))
def sh (hd:lc S) (k:Nat) (Y:Int->OS S) (rec1:Int->Int->OS S) (t:Tm) (i5:Int):Nat->Int->Int->OS S
 |0=>fun _ _=> .none
 |m+1=>fun v3'' v6=>CG hd k Y t i5 rec1 (sh hd k Y rec1 t i5 m) v3'' v6
def xK (hd:lc S) (k:Nat) (Y:Int->OS S) (t:Tm) (J2:Int->Int->Int->OS S) (rec1:Int->Int->OS S) (v3' i5:Int):OS S:=ac (decide ((i5:Int)<(t.sys.length:Int))) (J2 i5 v3' 0) (Y v3')
def og (hd:lc S) (k:Nat) (Y:Int->OS S) (t:Tm):Nat->Int->Int->OS S
 |0=>fun _ _=> .none
 |m+1=>fun v3' i5=>xK hd k Y t (fun i5 v3'' v6=>sh hd k Y (og hd k Y t m) t i5 k v3'' v6) (og hd k Y t m) v3' i5
def xJ (hd:lc S) (k:Nat) (Y:Int->OS S) (t:Tm) (J1:Int->Int->OS S) (rec0:Int->Int->OS S) (v3 i4:Int):OS S:=ac (decide ((i4:Int)<(t.kids.length:Int))) (ag (ai t.kids i4) fun x1=>hd (ae x1) fun r2=>rec0 (af .i64 (v3+r2)) (af .i64 (i4+1))) (J1 v3 0)
def vt (hd:lc S) (k:Nat) (Y:Int->OS S) (t:Tm):Nat->Int->Int->OS S
 |0=>fun _ _=> .none
 |m+1=>fun v3 i4=>xJ hd k Y t (fun v3' i5=>og hd k Y t k v3' i5) (vt hd k Y t m) v3 i4
def Oj (hd:lc S) (k:Nat) (Y:Int->OS S) (J0:Int->Int->OS S) (t:Tm):OS S:=J0 1 0
def jN:Nat->Tm->(Int->OS S)->OS S
 |0=>fun _ _=> .none
 |k+1=>fun t Y=>Oj (jN k) k Y (fun v3 i4=>vt (jN k) k Y t k v3 i4) t
def Ep (k:Nat) (t:Tm) (Y:Int->OS S):OS S:=kz k (ae t) fun r1=>ac (decide ((r1:Int)>200)) (Y 62) (jN k (ae t) fun r2=>ac (decide ((r2:Int)>20000)) (Y 221) (Y 0))
def ue (k:Nat) (kind:Int) (Y:Int->OS S):OS S:=ac (decide ((kind:Int)<0)) (Y (-1)) (ac (decide ((kind:Int)>28)) (Y (-1)) (ag (da (0<=kind/\kind<(29:Int))) fun x1=>ag (ai [(-1),0,0,0,2,1,2,2,2,1,1,3,1,3,2,2,1,1,1,0,0,0,4,1,0,0,1,5,2] kind) fun x2=>Y x2))
def uf (k:Nat) (kind:Int) (Y:Int->OS S):OS S:=ac (kind==16) (Y 2) (ac (kind==15) (Y 1) (ac (kind==17) (Y 1) (ac (kind==18) (Y 1) (Y 0))))
def IJ (k:Nat) (Y:Bool->OS S) (s:BA) (i3:Int) (x1:UInt8) (rec0:Int->OS S):OS S:=ac (!((x1.toNat:Int)==95)) (ac (decide (((x1.toNat:Int):Int)<97)) (ac (decide (((x1.toNat:Int):Int)<65)) (Y false) (ac (decide (((x1.toNat:Int):Int)>90)) (Y false) (rec0 (af .i64 (i3+1))))) (ac (decide (((x1.toNat:Int):Int)>122)) (ac (decide (((x1.toNat:Int):Int)<65)) (Y false) (ac (decide (((x1.toNat:Int):Int)>90)) (Y false) (rec0 (af .i64 (i3+1))))) (rec0 (af .i64 (i3+1))))) (rec0 (af .i64 (i3+1)))
def FB (k:Nat) (Y:Bool->OS S) (rec0:Int->OS S) (s:BA) (i3:Int) (x1:UInt8):Nat->OS S
 |0=> .none
 |_+1=>IJ k Y s i3 x1 rec0
def xL (k:Nat) (Y:Bool->OS S) (s:BA) (J1:Int->UInt8->OS S) (rec0:Int->OS S) (i3:Int):OS S:=ac (decide ((i3:Int)<(s.size:Int))) (ag (ai s.data.toList i3) fun x1=>ac (decide (((x1.toNat:Int):Int)>=48)) (ac (decide (((x1.toNat:Int):Int)<=57)) (ac (decide ((i3:Int)>0)) (rec0 (af .i64 (i3+1))) (J1 i3 x1)) (J1 i3 x1)) (J1 i3 x1)) (Y (decide (((s.size:Int):Int)>0)))
def si (k:Nat) (Y:Bool->OS S) (s:BA):Nat->Int->OS S
 |0=>fun _=> .none
 |m+1=>fun i3=>xL k Y s (fun i3 x1=>FB k Y (si k Y s m) s i3 x1 k) (si k Y s m) i3
def Ol (k:Nat) (Y:Bool->OS S) (J0:Int->OS S) (s:BA):OS S:=J0 0
def Eo (k:Nat) (s:BA) (Y:Bool->OS S):OS S:=Ol k Y (fun i3=>si k Y s k i3) s
def Ci (k:Nat) (Y:Int->OS S) (a_n:Int) (rec0:Int->Int->OS S) (p3 i4:Int):OS S:=ac (decide ((i4:Int)<a_n)) (rec0 (af .i64 (p3*2)) (af .i64 (i4+1))) (Y p3)
def vc (k:Nat) (Y:Int->OS S) (a_n:Int):Nat->Int->Int->OS S
 |0=>fun _ _=> .none
 |m+1=>fun p3 i4=>Ci k Y a_n (vc k Y a_n m) p3 i4
def NV (k:Nat) (Y:Int->OS S) (J0:Int->Int->OS S) (a_n:Int):OS S:=J0 1 0
def ub (k:Nat) (a_n:Int) (Y:Int->OS S):OS S:=NV k Y (fun p3 i4=>vc k Y a_n k p3 i4) a_n
def ua (k:Nat) (s:Int) (Y:Bool->OS S):OS S:=ab k (ub k 24) fun r1=>Y (decide ((af .i64 s:Int)<r1))
def yJ (k:Nat) (c:Cl) (Y:Bool->OS S):OS S:=ab k (ua k c.pos) fun r1=>ac (r1) (ab k (ua k c.neg) fun r2=>Y r2) (Y false)
def Ed (k:Nat) (a b:Cl) (Y:Bool->OS S):OS S:=ac ((bZ .or .u32 a.pos b.pos)==a.pos) (Y ((bZ .or .u32 a.neg b.neg)==a.neg)) (Y false)
def Cm (k:Nat) (Y:Bool->OS S) (c:Cl) (l:LC) (rec0:Int->OS S) (i5:Int):OS S:=ac (decide ((i5:Int)<(l.length:Int))) (ag (ai l i5) fun x1=>ac (!((x1.pos==c.pos)&&((x1.neg==c.neg)&&true))) (ag (ai l i5) fun x2=>ab k (Ed k c x2) fun r3=>ac (r3) (Y false) (rec0 (af .i64 (i5+1)))) (rec0 (af .i64 (i5+1)))) (Y true)
def vf (k:Nat) (Y:Bool->OS S) (c:Cl) (l:LC):Nat->Int->OS S
 |0=>fun _=> .none
 |m+1=>fun i5=>Cm k Y c l (vf k Y c l m) i5
def NY (k:Nat) (Y:Bool->OS S) (J0:Int->OS S) (l:LC) (c:Cl):OS S:=J0 0
def Eg (k:Nat) (l:LC) (c:Cl) (Y:Bool->OS S):OS S:=NY k Y (fun i5=>vf k Y c l k i5) l c
def Ee (k:Nat) (a b:Cl) (Y:Bool->OS S):OS S:=ac (decide ((a.pos:Int)<b.pos)) (Y true) (ac (a.pos==b.pos) (Y (decide ((a.neg:Int)<b.neg))) (Y false))
def Ck (k:Nat) (Y:LC×Int->OS S) (l out5:LC) (i6:Int) (rec1:(LC)->Int->OS S) (rec2:Int->OS S) (v7:Int):OS S:=ac (decide ((v7:Int)<(out5.length:Int))) (ag (ai out5 v7) fun x5=>ag (ai out5 v7) fun x6=>ag (ai l i6) fun x7=>ab k (Ee k x6 x7) fun r8=>ac (r8) (rec2 (af .i64 (v7+1))) (ac (v7==(out5.length:Int)) (ag (da (0<=v7/\v7<=(out5.length:Int))) fun x9=>ag (aS 1099511627776 ([]:LC).length (List.take (cW v7) out5).length) fun x10=>ag (ai l i6) fun x11=>ag (aS 1099511627776 (([]:LC)++(List.take (cW v7) out5)).length [x11].length) fun x12=>ag (da (0<=v7/\v7<=(out5.length:Int))) fun x13=>ag (aS 1099511627776 ((([]:LC)++(List.take (cW v7) out5))++[x11]).length (List.drop (cW v7) out5).length) fun x14=>rec1 (((([]:LC)++(List.take (cW v7) out5))++[x11])++(List.drop (cW v7) out5)) (af .i64 (i6+1))) (ag (ai out5 v7) fun x15=>ag (ai out5 v7) fun x16=>ag (ai l i6) fun x17=>ac (!((x16.pos==x17.pos)&&((x16.neg==x17.neg)&&true))) (ag (da (0<=v7/\v7<=(out5.length:Int))) fun x18=>ag (aS 1099511627776 ([]:LC).length (List.take (cW v7) out5).length) fun x19=>ag (ai l i6) fun x20=>ag (aS 1099511627776 (([]:LC)++(List.take (cW v7) out5)).length [x20].length) fun x21=>ag (da (0<=v7/\v7<=(out5.length:Int))) fun x22=>ag (aS 1099511627776 ((([]:LC)++(List.take (cW v7) out5))++[x20]).length (List.drop (cW v7) out5).length) fun x23=>rec1 (((([]:LC)++(List.take (cW v7) out5))++[x20])++(List.drop (cW v7) out5)) (af .i64 (i6+1))) (rec1 out5 (af .i64 (i6+1)))))) (ac (v7==(out5.length:Int)) (ag (da (0<=v7/\v7<=(out5.length:Int))) fun x24=>ag (aS 1099511627776 ([]:LC).length (List.take (cW v7) out5).length) fun x25=>ag (ai l i6) fun x26=>ag (aS 1099511627776 (([]:LC)++(List.take (cW v7) out5)).length [x26].length) fun x27=>ag (da (0<=v7/\v7<=(out5.length:Int))) fun x28=>ag (aS 1099511627776 ((([]:LC)++(List.take (cW v7) out5))++[x26]).length (List.drop (cW v7) out5).length) fun x29=>rec1 (((([]:LC)++(List.take (cW v7) out5))++[x26])++(List.drop (cW v7) out5)) (af .i64 (i6+1))) (ag (ai out5 v7) fun x30=>ag (ai out5 v7) fun x31=>ag (ai l i6) fun x32=>ac (!((x31.pos==x32.pos)&&((x31.neg==x32.neg)&&true))) (ag (da (0<=v7/\v7<=(out5.length:Int))) fun x33=>ag (aS 1099511627776 ([]:LC).length (List.take (cW v7) out5).length) fun x34=>ag (ai l i6) fun x35=>ag (aS 1099511627776 (([]:LC)++(List.take (cW v7) out5)).length [x35].length) fun x36=>ag (da (0<=v7/\v7<=(out5.length:Int))) fun x37=>ag (aS 1099511627776 ((([]:LC)++(List.take (cW v7) out5))++[x35]).length (List.drop (cW v7) out5).length) fun x38=>rec1 (((([]:LC)++(List.take (cW v7) out5))++[x35])++(List.drop (cW v7) out5)) (af .i64 (i6+1))) (rec1 out5 (af .i64 (i6+1)))))
def rY (k:Nat) (Y:LC×Int->OS S) (rec1:(LC)->Int->OS S) (l out5:LC) (i6:Int):Nat->Int->OS S
 |0=>fun _=> .none
 |m+1=>fun v7=>Ck k Y l out5 i6 rec1 (rY k Y rec1 l out5 i6 m) v7
def xq (k:Nat) (Y:LC×Int->OS S) (l:LC) (J2:(LC)->Int->Int->OS S) (rec1:(LC)->Int->OS S) (out5:LC) (i6:Int):OS S:=ac (decide ((i6:Int)<(l.length:Int))) (ag (ai l i6) fun x3=>ab k (Eg k l x3) fun r4=>ac (!r4) (rec1 out5 (af .i64 (i6+1))) (J2 out5 i6 0)) (ac (decide (((out5.length:Int):Int)>64)) (Y (([]:LC),3)) (Y (out5,0)))
def n7 (k:Nat) (Y:LC×Int->OS S) (l:LC):Nat->(LC)->Int->OS S
 |0=>fun _ _=> .none
 |m+1=>fun out5 i6=>xq k Y l (fun out5 i6 v7=>rY k Y (n7 k Y l m) l out5 i6 k v7) (n7 k Y l m) out5 i6
def xp (k:Nat) (Y:LC×Int->OS S) (l:LC) (J1:(LC)->Int->OS S) (rec0:Int->OS S) (i4:Int):OS S:=ac (decide ((i4:Int)<(l.length:Int))) (ag (ai l i4) fun x1=>ab k (yJ k x1) fun r2=>ac (!r2) (Y (([]:LC),2)) (rec0 (af .i64 (i4+1)))) (J1 ([]:LC) 0)
def ve (k:Nat) (Y:LC×Int->OS S) (l:LC):Nat->Int->OS S
 |0=>fun _=> .none
 |m+1=>fun i4=>xp k Y l (fun out5 i6=>n7 k Y l k out5 i6) (ve k Y l m) i4
def NX (k:Nat) (Y:LC×Int->OS S) (J0:Int->OS S) (l:LC):OS S:=J0 0
def mr (k:Nat) (l:LC) (Y:LC×Int->OS S):OS S:=NX k Y (fun i4=>ve k Y l k i4) l
def hU (k:Nat) (f:LC) (Y:Bool->OS S):OS S:=ab k (mr k f) fun r1=>ac (r1.2==0) (ab k (ph k r1.1 f) fun r2=>Y r2) (Y false)
def gF (k:Nat) (s i:Int) (Y:Bool->OS S):OS S:=ac (decide ((i:Int)>=0)) (ac (decide ((i:Int)<24)) (ab k (ub k i) fun r1=>ag (da (r1≠0)) fun x2=>Y ((Int.tmod (af .i64 (Int.tdiv (af .i64 s) r1)) 2)==1)) (Y false)) (Y false)
def Cg (k:Nat) (Y:Int->OS S) (l:List Int) (rec0:Int->Int->OS S) (v3 i4:Int):OS S:=ac (decide ((i4:Int)<(l.length:Int))) (ag (ai l i4) fun x1=>ab k (ub k x1) fun r2=>rec0 (af .i64 (v3+r2)) (af .i64 (i4+1))) (Y (af .u32 v3))
def u_ (k:Nat) (Y:Int->OS S) (l:List Int):Nat->Int->Int->OS S
 |0=>fun _ _=> .none
 |m+1=>fun v3 i4=>Cg k Y l (u_ k Y l m) v3 i4
def NT (k:Nat) (Y:Int->OS S) (J0:Int->Int->OS S) (l:List Int):OS S:=J0 0 0
def mq (k:Nat) (l:List Int) (Y:Int->OS S):OS S:=NT k Y (fun v3 i4=>u_ k Y l k v3 i4) l
def Co (k:Nat) (Y:Int->OS S) (f:LC) (l3:List Int) (i4:Int) (rec0:(List Int)->Int->OS S) (rec1:Bool->Int->OS S) (v5:Bool) (v6:Int):OS S:=ac (decide ((v6:Int)<(f.length:Int))) (ac (v5) (rec1 true (af .i64 (v6+1))) (ag (ai f v6) fun x1=>ab k (gF k x1.pos i4) fun r2=>ac (r2) (rec1 true (af .i64 (v6+1))) (ag (ai f v6) fun x3=>ab k (gF k x3.neg i4) fun r4=>rec1 r4 (af .i64 (v6+1))))) (ac (v5) (ag (aS 1099511627776 l3.length [i4].length) fun x5=>rec0 (l3++[i4]) (af .i64 (i4+1))) (rec0 l3 (af .i64 (i4+1))))
def rZ (k:Nat) (Y:Int->OS S) (rec0:(List Int)->Int->OS S) (f:LC) (l3:List Int) (i4:Int):Nat->Bool->Int->OS S
 |0=>fun _ _=> .none
 |m+1=>fun v5 v6=>Co k Y f l3 i4 rec0 (rZ k Y rec0 f l3 i4 m) v5 v6
def xt (k:Nat) (Y:Int->OS S) (f:LC) (J1:(List Int)->Int->Bool->Int->OS S) (rec0:(List Int)->Int->OS S) (l3:List Int) (i4:Int):OS S:=ac (decide ((i4:Int)<24)) (J1 l3 i4 false 0) (ab k (mq k l3) fun r6=>Y r6)
def pQ (k:Nat) (Y:Int->OS S) (f:LC):Nat->(List Int)->Int->OS S
 |0=>fun _ _=> .none
 |m+1=>fun l3 i4=>xt k Y f (fun l3 i4 v5 v6=>rZ k Y (pQ k Y f m) f l3 i4 k v5 v6) (pQ k Y f m) l3 i4
def N3 (k:Nat) (Y:Int->OS S) (J0:(List Int)->Int->OS S) (f:LC):OS S:=J0 ([]:List Int) 0
def yL (k:Nat) (f:LC) (Y:Int->OS S):OS S:=N3 k Y (fun l3 i4=>pQ k Y f k l3 i4) f
def IG (k:Nat) (Y:List Int->OS S) (s:Int) (rec0:(List Int)->Int->OS S) (out3:List Int) (i4:Int):OS S:=ac (decide ((i4:Int)<24)) (ab k (gF k s i4) fun r1=>ac (r1) (ag (aS 1099511627776 out3.length [i4].length) fun x2=>rec0 (out3++[i4]) (af .i64 (i4+1))) (rec0 out3 (af .i64 (i4+1)))) (Y out3)
def zL (k:Nat) (Y:List Int->OS S) (s:Int):Nat->(List Int)->Int->OS S
 |0=>fun _ _=> .none
 |m+1=>fun out3 i4=>IG k Y s (zL k Y s m) out3 i4
def NS (k:Nat) (Y:List Int->OS S) (J0:(List Int)->Int->OS S) (s:Int):OS S:=J0 ([]:List Int) 0
def mo (k:Nat) (s:Int) (Y:List Int->OS S):OS S:=NS k Y (fun out3 i4=>zL k Y s k out3 i4) s
def yO (k:Nat) (f:LC) (dims:Int) (Y:Bool->OS S):OS S:=ab k (yL k f) fun r1=>ab k (mo k r1) fun r2=>ac ((r2.length:Int)==0) (Y true) (ag (ai r2 (af .i64 ((r2.length:Int)-1))) fun x3=>ag (ai r2 (af .i64 ((r2.length:Int)-1))) fun x4=>Y (decide ((x4:Int)<dims)))
def II (k:Nat) (Y:Int×Int->OS S) (kind kid:Int):OS S:=ac (kid==0) (ac (kind==11) (Y (0,1)) (ac (kind==12) (Y (0,1)) (ac (kind==14) (Y (0,1)) (Y (0,0))))) (Y (0,0))
def FA (k:Nat) (Y:Int×Int->OS S) (kind kid:Int):Nat->OS S
 |0=> .none
 |_+1=>II k Y kind kid
def CB (k:Nat) (Y:Int×Int->OS S) (kind kid:Int) (J1:OS S):OS S:=ac (kid==0) (ac (kind==5) (Y (1,0)) (ac (kind==22) (Y (1,0)) (ac (kind==27) (Y (1,0)) (J1)))) (J1)
def KL (k:Nat) (Y:Int×Int->OS S) (kind kid:Int):Nat->OS S
 |0=> .none
 |_+1=>CB k Y kind kid (FA k Y kind kid k)
def Oe (k:Nat) (Y:Int×Int->OS S) (J0:OS S) (kind kid:Int):OS S:=ac (kid==1) (ac (kind==4) (Y (1,0)) (ac (kind==7) (Y (1,0)) (J0))) (J0)
def pj (k:Nat) (kind kid:Int) (Y:Int×Int->OS S):OS S:=Oe k Y (KL k Y kind kid k) kind kid
def Cj (k:Nat) (Y:Bool->OS S) (c:Cl) (rec0:Int->OS S) (i3:Int):OS S:=ac (decide ((i3:Int)<24)) (ab k (gF k c.pos i3) fun r1=>ac (r1) (ab k (gF k c.neg i3) fun r2=>ac (r2) (Y true) (rec0 (af .i64 (i3+1)))) (rec0 (af .i64 (i3+1)))) (Y false)
def vd (k:Nat) (Y:Bool->OS S) (c:Cl):Nat->Int->OS S
 |0=>fun _=> .none
 |m+1=>fun i3=>Cj k Y c (vd k Y c m) i3
def NW (k:Nat) (Y:Bool->OS S) (J0:Int->OS S) (c:Cl):OS S:=J0 0
def yH (k:Nat) (c:Cl) (Y:Bool->OS S):OS S:=NW k Y (fun i3=>vd k Y c k i3) c
def Cw (k:Nat) (Y:Bool->OS S) (f:LC) (rec0:Int->OS S) (i3:Int):OS S:=ac (decide ((i3:Int)<(f.length:Int))) (ag (ai f i3) fun x2=>ab k (yH k x2) fun r3=>ac (r3) (Y false) (rec0 (af .i64 (i3+1)))) (Y true)
def vl (k:Nat) (Y:Bool->OS S) (f:LC):Nat->Int->OS S
 |0=>fun _=> .none
 |m+1=>fun i3=>Cw k Y f (vl k Y f m) i3
def Oa (k:Nat) (Y:Bool->OS S) (J0:Int->OS S) (f:LC):OS S:=ab k (hU k f) fun r1=>ac (!r1) (Y false) (J0 0)
def mt (k:Nat) (f:LC) (Y:Bool->OS S):OS S:=Oa k Y (fun i3=>vl k Y f k i3) f
def pm (k:Nat) (kind:Int) (Y:Int->OS S):OS S:=ac (kind==15) (Y 1) (Y 0)
abbrev gu (S:Type):=Tm->Int->Int->Bool->(Bool->OS S)->OS S
def CA (hd:gu S) (k:Nat) (Y:Bool->OS S) (x11:(Br Tm)) (t:Tm) (vars i12 dims:Int) (bound:Bool) (rec5:Int->OS S) (rec6:Int->OS S) (v14:Int):OS S:=ac (decide ((v14:Int)<(x11.kids.length:Int))) (ag (ai x11.kids v14) fun x15=>ab k (pm k t.kind) fun r16=>hd (ae x15) vars (af .i64 (dims+r16)) bound fun r17=>ac (!r17) (Y false) (rec6 (af .i64 (v14+1)))) (rec5 (af .i64 (i12+1)))
def pU (hd:gu S) (k:Nat) (Y:Bool->OS S) (rec5:Int->OS S) (x11:(Br Tm)) (t:Tm) (vars i12 dims:Int) (bound:Bool):Nat->Int->OS S
 |0=>fun _=> .none
 |m+1=>fun v14=>CA hd k Y x11 t vars i12 dims bound rec5 (pU hd k Y rec5 x11 t vars i12 dims bound m) v14
def xA (hd:gu S) (k:Nat) (Y:Bool->OS S) (t:Tm) (vars dims:Int) (bound:Bool) (J6:(Br Tm)->Int->Int->OS S) (rec5:Int->OS S) (i12:Int):OS S:=ac (decide ((i12:Int)<(t.sys.length:Int))) (ag (ai t.sys i12) fun x11=>ab k (uf k t.kind) fun r12=>ac (!((x11.kids.length:Int)==r12)) (Y false) (ab k (mt k x11.face) fun r13=>ac (!r13) (Y false) (ab k (yO k x11.face dims) fun r14=>ac (!r14) (Y false) (J6 x11 i12 0)))) (Y true)
def lE (hd:gu S) (k:Nat) (Y:Bool->OS S) (t:Tm) (vars dims:Int) (bound:Bool):Nat->Int->OS S
 |0=>fun _=> .none
 |m+1=>fun i12=>xA hd k Y t vars dims bound (fun x11 i12 v14=>pU hd k Y (lE hd k Y t vars dims bound m) x11 t vars i12 dims bound k v14) (lE hd k Y t vars dims bound m) i12
def xz (hd:gu S) (k:Nat) (Y:Bool->OS S) (t:Tm) (vars dims:Int) (bound:Bool) (J5:Int->OS S) (rec4:Int->OS S) (i9:Int):OS S:=ac (decide ((i9:Int)<(t.kids.length:Int))) (ab k (pj k t.kind i9) fun r6=>ac (decide ((vars:Int)<0)) (ag (ai t.kids i9) fun x7=>hd (ae x7) (af .i64 (vars+0)) (af .i64 (dims+r6.2)) bound fun r8=>ac (!r8) (Y false) (rec4 (af .i64 (i9+1)))) (ag (ai t.kids i9) fun x9=>hd (ae x9) (af .i64 (vars+r6.1)) (af .i64 (dims+r6.2)) bound fun r10=>ac (!r10) (Y false) (rec4 (af .i64 (i9+1))))) (J5 0)
def n9 (hd:gu S) (k:Nat) (Y:Bool->OS S) (t:Tm) (vars dims:Int) (bound:Bool):Nat->Int->OS S
 |0=>fun _=> .none
 |m+1=>fun i9=>xz hd k Y t vars dims bound (fun i12=>lE hd k Y t vars dims bound k i12) (n9 hd k Y t vars dims bound m) i9
def Cz (hd:gu S) (k:Nat) (Y:Bool->OS S) (t:Tm) (vars dims:Int) (bound:Bool) (J4:Int->OS S):OS S:=ab k (yO k t.r dims) fun r5=>ac (!r5) (Y false) (J4 0)
def vo (hd:gu S) (k:Nat) (Y:Bool->OS S) (t:Tm) (vars dims:Int) (bound:Bool):Nat->OS S
 |0=> .none
 |_+1=>Cz hd k Y t vars dims bound (fun i9=>n9 hd k Y t vars dims bound k i9)
def xy (hd:gu S) (k:Nat) (Y:Bool->OS S) (t:Tm) (vars dims:Int) (bound:Bool) (J3:OS S):OS S:=ac (t.kind==13) (ab k (hU k t.r) fun r4=>ac (!r4) (Y false) (J3)) (ac (t.kind==21) (ab k (hU k t.r) fun r18=>ac (!r18) (Y false) (J3)) (ac (t.kind==26) (ab k (hU k t.r) fun r19=>ac (!r19) (Y false) (J3)) (ac (t.kind==14) (ab k (mt k t.r) fun r20=>ac (!r20) (Y false) (J3)) (ac (decide (((t.r.length:Int):Int)>0)) (Y false) (J3)))))
def vn (hd:gu S) (k:Nat) (Y:Bool->OS S) (t:Tm) (vars dims:Int) (bound:Bool):Nat->OS S
 |0=> .none
 |_+1=>xy hd k Y t vars dims bound (vo hd k Y t vars dims bound k)
def xx (hd:gu S) (k:Nat) (Y:Bool->OS S) (t:Tm) (vars dims:Int) (bound:Bool) (J2:OS S):OS S:=ac (t.kind==2) (ab k (Eo k t.name) fun r3=>ac (!r3) (Y false) (ac (!(t.kind==2)) (ac (!(t.name==au)) (Y false) (J2)) (J2))) (ac (!(t.kind==2)) (ac (!(t.name==au)) (Y false) (J2)) (J2))
def zM (hd:gu S) (k:Nat) (Y:Bool->OS S) (t:Tm) (vars dims:Int) (bound:Bool):Nat->OS S
 |0=> .none
 |_+1=>xx hd k Y t vars dims bound (vn hd k Y t vars dims bound k)
def Cy (hd:gu S) (k:Nat) (Y:Bool->OS S) (t:Tm) (vars dims:Int) (bound:Bool) (J1:OS S):OS S:=ac (t.kind==1) (ac (decide ((t.n:Int)<0)) (Y false) (ac (decide ((vars:Int)>=0)) (ac (decide ((t.n:Int)>=vars)) (Y false) (J1)) (J1))) (ac (!(t.n==0)) (Y false) (J1))
def Fz (hd:gu S) (k:Nat) (Y:Bool->OS S) (t:Tm) (vars dims:Int) (bound:Bool):Nat->OS S
 |0=> .none
 |_+1=>Cy hd k Y t vars dims bound (zM hd k Y t vars dims bound k)
def Od (hd:gu S) (k:Nat) (Y:Bool->OS S) (J0:OS S) (t:Tm) (vars dims:Int) (bound:Bool):OS S:=ac (bound) (ac (decide ((dims:Int)>24)) (Y false) (ab k (ue k t.kind) fun r1=>ac (!(r1==(t.kids.length:Int))) (Y false) (ac (decide (((t.sys.length:Int):Int)>0)) (ab k (uf k t.kind) fun r2=>ac (r2==0) (Y false) (J0)) (J0)))) (ab k (ue k t.kind) fun r21=>ac (!(r21==(t.kids.length:Int))) (Y false) (ac (decide (((t.sys.length:Int):Int)>0)) (ab k (uf k t.kind) fun r22=>ac (r22==0) (Y false) (J0)) (J0)))
def eC:Nat->Tm->Int->Int->Bool->(Bool->OS S)->OS S
 |0=>fun _ _ _ _ _=> .none
 |k+1=>fun t vars dims bound Y=>Od (eC k) k Y (Fz (eC k) k Y t vars dims bound k) t vars dims bound
def pk (k:Nat) (t:Tm) (Y:Int->OS S):OS S:=ab k (Ep k (ae t)) fun r1=>ac (r1==0) (eC k (ae t) (-1) 24 false fun r2=>ac (!r2) (Y 100) (Y r1)) (Y r1)
def yR (k:Nat) (t:Tm) (a b:Int) (Y:Int->OS S):OS S:=ab k (pk k (ae t)) fun r1=>ac (r1==0) (ac (decide ((a:Int)<0)) (Y 2) (ac (decide ((b:Int)<0)) (Y 2) (Y r1))) (Y r1)
def e_ (k:Nat) (a_e:Int) (Y:Int×Int×BA->OS S):OS S:=Y (af .i64 (0-a_e),0,au)
def Cf (k:Nat) (Y:Int×Int->OS S) (a_from a_by:Int) (rec0:(List Int)->Int->OS S) (l8:List Int) (v9:Int):OS S:=ac (decide ((v9:Int)<(l8.length:Int))) (ag (ai l8 v9) fun x2=>ag (ai l8 v9) fun x3=>ac (decide ((x3:Int)<a_from)) (rec0 l8 (af .i64 (v9+1))) (ag (ai l8 v9) fun x4=>ag (ai l8 v9) fun x5=>ac (decide ((a_by:Int)>=(af .i64 (24-x5)))) (Y (0,10)) (ag (ai l8 v9) fun x6=>ag (ai l8 v9) fun x7=>ag (ai l8 v9) fun x8=>ag (ai l8 v9) fun x9=>rec0 (l8.set (cW v9) (af .i64 (x7+a_by))) (af .i64 (v9+1))))) (ab k (mq k l8) fun r10=>Y (r10,0))
def rX (k:Nat) (Y:Int×Int->OS S) (a_from a_by:Int):Nat->(List Int)->Int->OS S
 |0=>fun _ _=> .none
 |m+1=>fun l8 v9=>Cf k Y a_from a_by (rX k Y a_from a_by m) l8 v9
def Bn (k:Nat) (Y:Int×Int->OS S) (J0:(List Int)->Int->OS S) (s a_from a_by:Int):OS S:=ac (decide ((a_from:Int)<0)) (Y (0,2)) (ac (decide ((a_by:Int)<0)) (Y (0,2)) (ab k (mo k s) fun r1=>J0 r1 0))
def pf (k:Nat) (s a_from a_by:Int) (Y:Int×Int->OS S):OS S:=Bn k Y (fun l8 v9=>rX k Y a_from a_by k l8 v9) s a_from a_by
def Ef (k:Nat) (c:Cl) (a_from a_by:Int) (Y:Cl×Int->OS S):OS S:=ab k (yJ k c) fun r1=>ac (!r1) (Y ((Cl.mk 0 0),2)) (ab k (pf k c.pos a_from a_by) fun r2=>ac (!(r2.2==0)) (Y ((Cl.mk 0 0),r2.2)) (ab k (pf k c.neg a_from a_by) fun r3=>ac (!(r3.2==0)) (Y ((Cl.mk 0 0),r3.2)) (Y ((Cl.mk r2.1 r3.1),0))))
def Cp (k:Nat) (Y:LC×Int->OS S) (f:LC) (a_from a_by:Int) (rec0:(LC)->Int->OS S) (out8:LC) (i9:Int):OS S:=ac (decide ((i9:Int)<(f.length:Int))) (ag (ai f i9) fun x2=>ab k (Ef k x2 a_from a_by) fun r3=>ac (!(r3.2==0)) (Y (([]:LC),r3.2)) (ag (aS 1099511627776 out8.length [r3.1].length) fun x4=>rec0 (out8++[r3.1]) (af .i64 (i9+1)))) (ab k (mr k out8) fun r5=>Y (r5.1,r5.2))
def vh (k:Nat) (Y:LC×Int->OS S) (f:LC) (a_from a_by:Int):Nat->(LC)->Int->OS S
 |0=>fun _ _=> .none
 |m+1=>fun out8 i9=>Cp k Y f a_from a_by (vh k Y f a_from a_by m) out8 i9
def N4 (k:Nat) (Y:LC×Int->OS S) (J0:(LC)->Int->OS S) (f:LC) (a_from a_by:Int):OS S:=ab k (hU k f) fun r1=>ac (!r1) (Y (([]:LC),2)) (J0 ([]:LC) 0)
def nC (k:Nat) (f:LC) (a_from a_by:Int) (Y:LC×Int->OS S):OS S:=N4 k Y (fun out8 i9=>vh k Y f a_from a_by k out8 i9) f a_from a_by
def yQ (k:Nat) (f:LC) (a_from a_by:Int) (Y:LC×Int->OS S):OS S:=ac ((f.length:Int)==0) (Y (([]:LC),0)) (ab k (nC k f a_from a_by) fun r1=>Y (r1.1,r1.2))
abbrev jE (S:Type):=Tm->Int->Int->Int->Int->(Tm->OS S)->OS S
def CI (hd:jE S) (k:Nat) (Y:Tm->OS S) (t:Tm) (bK:Int) (r2:LC×Int) (b11_4:LT) (b11_5:LB) (r9:LC×Int) (v i18 vby d dby:Int) (rec2:(LB)->Int->OS S) (rec3:(LT)->Int->OS S) (b21_1:LT) (v22:Int):OS S:=ag (ai t.sys i18) fun x11=>ac (decide ((v22:Int)<(x11.kids.length:Int))) (ag (ai t.sys i18) fun x12=>ag (ai x12.kids v22) fun x13=>ab k (pm k t.kind) fun r14=>hd (ae x13) v vby (af .i64 (d+r14)) dby fun r15=>ac (decide ((r15.kind:Int)<0)) (Y (ae r15)) (ag (aS 1099511627776 b21_1.length [(ae r15)].length) fun x16=>rec3 (b21_1++[(ae r15)]) (af .i64 (v22+1)))) (ag (aS 1099511627776 b11_5.length [(Br.mk r9.1 b21_1)].length) fun x17=>rec2 (b11_5++[(Br.mk r9.1 b21_1)]) (af .i64 (i18+1)))
def mK (hd:jE S) (k:Nat) (Y:Tm->OS S) (rec2:(LB)->Int->OS S) (t:Tm) (bK:Int) (r2:LC×Int) (b11_4:LT) (b11_5:LB) (r9:LC×Int) (v i18 vby d dby:Int):Nat->(LT)->Int->OS S
 |0=>fun _ _=> .none
 |m+1=>fun b21_1 v22=>CI hd k Y t bK r2 b11_4 b11_5 r9 v i18 vby d dby rec2 (mK hd k Y rec2 t bK r2 b11_4 b11_5 r9 v i18 vby d dby m) b21_1 v22
def xO (hd:jE S) (k:Nat) (Y:Tm->OS S) (t:Tm) (bK:Int) (r2:LC×Int) (b11_4:LT) (v vby d dby:Int) (J3:(LB)->(LC×Int)->Int->(LT)->Int->OS S) (rec2:(LB)->Int->OS S) (b11_5:LB) (i18:Int):OS S:=ac (decide ((i18:Int)<(t.sys.length:Int))) (ag (ai t.sys i18) fun x8=>ab k (yQ k x8.face d dby) fun r9=>ac (!(r9.2==0)) (ab k (e_ k r9.2) fun r10=>Y (Tm.mk r10.1 r10.2.1 r10.2.2 [] [] [])) (J3 b11_5 r9 i18 ([]:LT) 0)) (Y (Tm.mk t.kind bK t.name r2.1 b11_4 b11_5))
def iW (hd:jE S) (k:Nat) (Y:Tm->OS S) (t:Tm) (bK:Int) (r2:LC×Int) (b11_4:LT) (v vby d dby:Int):Nat->(LB)->Int->OS S
 |0=>fun _ _=> .none
 |m+1=>fun b11_5 i18=>xO hd k Y t bK r2 b11_4 v vby d dby (fun b11_5 r9 i18 b21_1 v22=>mK hd k Y (iW hd k Y t bK r2 b11_4 v vby d dby m) t bK r2 b11_4 b11_5 r9 v i18 vby d dby k b21_1 v22) (iW hd k Y t bK r2 b11_4 v vby d dby m) b11_5 i18
def xN (hd:jE S) (k:Nat) (Y:Tm->OS S) (t:Tm) (bK:Int) (r2:LC×Int) (v vby d dby:Int) (J2:(LT)->(LB)->Int->OS S) (rec1:(LT)->Int->OS S) (b11_4:LT) (i14:Int):OS S:=ac (decide ((i14:Int)<(t.kids.length:Int))) (ab k (pj k t.kind i14) fun r4=>ag (ai t.kids i14) fun x5=>hd (ae x5) (af .i64 (v+r4.1)) vby (af .i64 (d+r4.2)) dby fun r6=>ac (decide ((r6.kind:Int)<0)) (Y (ae r6)) (ag (aS 1099511627776 b11_4.length [(ae r6)].length) fun x7=>rec1 (b11_4++[(ae r6)]) (af .i64 (i14+1)))) (J2 b11_4 ([]:LB) 0)
def lG (hd:jE S) (k:Nat) (Y:Tm->OS S) (t:Tm) (bK:Int) (r2:LC×Int) (v vby d dby:Int):Nat->(LT)->Int->OS S
 |0=>fun _ _=> .none
 |m+1=>fun b11_4 i14=>xN hd k Y t bK r2 v vby d dby (fun b11_4 b11_5 i18=>iW hd k Y t bK r2 b11_4 v vby d dby k b11_5 i18) (lG hd k Y t bK r2 v vby d dby m) b11_4 i14
def xM (hd:jE S) (k:Nat) (Y:Tm->OS S) (t:Tm) (v vby d dby:Int) (J1:Int->(LC×Int)->(LT)->Int->OS S) (bK:Int):OS S:=ab k (yQ k t.r d dby) fun r2=>ac (!(r2.2==0)) (ab k (e_ k r2.2) fun r3=>Y (Tm.mk r3.1 r3.2.1 r3.2.2 [] [] [])) (J1 bK r2 ([]:LT) 0)
def FC (hd:jE S) (k:Nat) (Y:Tm->OS S) (t:Tm) (v vby d dby:Int):Nat->Int->OS S
 |0=>fun _=> .none
 |_+1=>fun bK=>xM hd k Y t v vby d dby (fun bK r2 b11_4 i14=>lG hd k Y t bK r2 v vby d dby k b11_4 i14) bK
def Oo (hd:jE S) (k:Nat) (Y:Tm->OS S) (J0:Int->OS S) (t:Tm) (v vby d dby:Int):OS S:=ac (t.kind==1) (ac (decide ((t.n:Int)>=v)) (ac (decide ((t.n:Int)>(af .i64 (1000000000-vby)))) (ab k (e_ k 100) fun r1=>Y (Tm.mk r1.1 r1.2.1 r1.2.2 [] [] [])) (J0 (af .i64 (t.n+vby)))) (J0 t.n)) (J0 t.n)
def dI:Nat->Tm->Int->Int->Int->Int->(Tm->OS S)->OS S
 |0=>fun _ _ _ _ _ _=> .none
 |k+1=>fun t v vby d dby Y=>Oo (dI k) k Y (fun bK=>FC (dI k) k Y t v vby d dby k bK) t v vby d dby
def nE (k:Nat) (t:Tm) (Y:Tm×Int->OS S):OS S:=ac (decide ((t.kind:Int)<0)) (Y ((Tm.mk 0 0 au [] [] []),af .i64 (0-t.kind))) (Y ((ae t),0))
def yP (k:Nat) (t:Tm) (a_from a_by:Int) (Y:Tm×Int->OS S):OS S:=ab k (yR k (ae t) a_from a_by) fun r1=>ac (!(r1==0)) (Y ((Tm.mk 0 0 au [] [] []),r1)) (ac (decide ((a_from:Int)>1000000000)) (dI k (ae t) 0 0 1000000000 a_by fun r2=>ab k (nE k (ae r2)) fun r3=>Y ((ae r3.1),r3.2)) (dI k (ae t) 0 0 a_from a_by fun r4=>ab k (nE k (ae r4)) fun r5=>Y ((ae r5.1),r5.2)))
def Ch (k:Nat) (Y:Int->OS S) (i:Int) (r1:List Int) (rec0:(List Int)->Int->OS S) (out6:List Int) (v7:Int):OS S:=ac (decide ((v7:Int)<(r1.length:Int))) (ag (ai r1 v7) fun x2=>ag (ai r1 v7) fun x3=>ac (!(x3==i)) (ag (ai r1 v7) fun x4=>ag (ai r1 v7) fun x5=>ag (aS 1099511627776 out6.length [x5].length) fun x6=>rec0 (out6++[x5]) (af .i64 (v7+1))) (rec0 out6 (af .i64 (v7+1)))) (ab k (mq k out6) fun r7=>Y r7)
def va (k:Nat) (Y:Int->OS S) (i:Int) (r1:List Int):Nat->(List Int)->Int->OS S
 |0=>fun _ _=> .none
 |m+1=>fun out6 v7=>Ch k Y i r1 (va k Y i r1 m) out6 v7
def NU (k:Nat) (Y:Int->OS S) (J0:(List Int)->(List Int)->Int->OS S) (s i:Int):OS S:=ab k (mo k s) fun r1=>J0 r1 ([]:List Int) 0
def kw (k:Nat) (s i:Int) (Y:Int->OS S):OS S:=NU k Y (fun r1 out6 v7=>va k Y i r1 k out6 v7) s i
def Cx (k:Nat) (Y:LC×Int->OS S) (l:LC) (rec0:(LC)->Int->OS S) (out4:LC) (i5:Int):OS S:=ac (decide ((i5:Int)<(l.length:Int))) (ag (ai l i5) fun x1=>ab k (yH k x1) fun r2=>ac (!r2) (ag (ai l i5) fun x3=>ag (aS 1099511627776 out4.length [x3].length) fun x4=>rec0 (out4++[x3]) (af .i64 (i5+1))) (rec0 out4 (af .i64 (i5+1)))) (ab k (mr k out4) fun r5=>Y (r5.1,r5.2))
def vm (k:Nat) (Y:LC×Int->OS S) (l:LC):Nat->(LC)->Int->OS S
 |0=>fun _ _=> .none
 |m+1=>fun out4 i5=>Cx k Y l (vm k Y l m) out4 i5
def Oc (k:Nat) (Y:LC×Int->OS S) (J0:(LC)->Int->OS S) (l:LC):OS S:=J0 ([]:LC) 0
def rm (k:Nat) (l:LC) (Y:LC×Int->OS S):OS S:=Oc k Y (fun out4 i5=>vm k Y l k out4 i5) l
def Ek (k:Nat) (f:LC) (Y:LC×Int->OS S):OS S:=ab k (hU k f) fun r1=>ac (!r1) (Y (([]:LC),2)) (ab k (rm k f) fun r2=>Y (r2.1,r2.2))
def Ct (k:Nat) (Y:LC->OS S) (c:Cl) (rec0:(LC)->Int->OS S) (out3:LC) (i4:Int):OS S:=ac (decide ((i4:Int)<24)) (ab k (mq k [i4]) fun r1=>ab k (gF k c.pos i4) fun r2=>ac (r2) (ag (aS 1099511627776 out3.length [(Cl.mk 0 r1)].length) fun x3=>ab k (gF k c.neg i4) fun r4=>ac (r4) (ag (aS 1099511627776 (out3++[(Cl.mk 0 r1)]).length [(Cl.mk r1 0)].length) fun x5=>rec0 ((out3++[(Cl.mk 0 r1)])++[(Cl.mk r1 0)]) (af .i64 (i4+1))) (rec0 (out3++[(Cl.mk 0 r1)]) (af .i64 (i4+1)))) (ab k (gF k c.neg i4) fun r6=>ac (r6) (ag (aS 1099511627776 out3.length [(Cl.mk r1 0)].length) fun x7=>rec0 (out3++[(Cl.mk r1 0)]) (af .i64 (i4+1))) (rec0 out3 (af .i64 (i4+1))))) (ab k (mr k out3) fun r8=>Y r8.1)
def vk (k:Nat) (Y:LC->OS S) (c:Cl):Nat->(LC)->Int->OS S
 |0=>fun _ _=> .none
 |m+1=>fun out3 i4=>Ct k Y c (vk k Y c m) out3 i4
def N8 (k:Nat) (Y:LC->OS S) (J0:(LC)->Int->OS S) (c:Cl):OS S:=J0 ([]:LC) 0
def Ej (k:Nat) (c:Cl) (Y:LC->OS S):OS S:=N8 k Y (fun out3 i4=>vk k Y c k out3 i4) c
def yG (k:Nat) (s i:Int) (Y:Int->OS S):OS S:=ac (decide ((i:Int)<0)) (ab k (kw k s (-1)) fun r1=>Y r1) (ac (decide ((i:Int)>=24)) (ab k (kw k s (-1)) fun r2=>Y r2) (ab k (kw k s i) fun r3=>ab k (mo k r3) fun r4=>ag (aS 1099511627776 r4.length [i].length) fun x5=>ab k (mq k (r4++[i])) fun r6=>Y r6))
def Cn (k:Nat) (Y:Int->OS S) (r1:List Int) (rec0:Int->Int->OS S) (a0 i6:Int):OS S:=ac (decide ((i6:Int)<(r1.length:Int))) (ag (ai r1 i6) fun x2=>ag (ai r1 i6) fun x3=>ab k (yG k a0 x3) fun r4=>rec0 r4 (af .i64 (i6+1))) (Y a0)
def vg (k:Nat) (Y:Int->OS S) (r1:List Int):Nat->Int->Int->OS S
 |0=>fun _ _=> .none
 |m+1=>fun a0 i6=>Cn k Y r1 (vg k Y r1 m) a0 i6
def NZ (k:Nat) (Y:Int->OS S) (J0:(List Int)->Int->Int->OS S) (a b:Int):OS S:=ab k (mo k b) fun r1=>J0 r1 a 0
def yK (k:Nat) (a b:Int) (Y:Int->OS S):OS S:=NZ k Y (fun r1 a0 i6=>vg k Y r1 k a0 i6) a b
def yI (k:Nat) (a b:Cl) (Y:Cl->OS S):OS S:=ab k (yK k a.pos b.pos) fun r1=>ab k (yK k a.neg b.neg) fun r2=>Y (Cl.mk r1 r2)
def Cq (k:Nat) (Y:LC×Int->OS S) (f g:LC) (i7:Int) (rec0:(LC)->Int->OS S) (rec1:(LC)->Int->OS S) (out6':LC) (v8:Int):OS S:=ac (decide ((v8:Int)<(g.length:Int))) (ag (ai f i7) fun x3=>ag (ai g v8) fun x4=>ab k (yI k x3 x4) fun r5=>ag (aS 1099511627776 out6'.length [r5].length) fun x6=>rec1 (out6'++[r5]) (af .i64 (v8+1))) (rec0 out6' (af .i64 (i7+1)))
def r_ (k:Nat) (Y:LC×Int->OS S) (rec0:(LC)->Int->OS S) (f g:LC) (i7:Int):Nat->(LC)->Int->OS S
 |0=>fun _ _=> .none
 |m+1=>fun out6' v8=>Cq k Y f g i7 rec0 (r_ k Y rec0 f g i7 m) out6' v8
def xu (k:Nat) (Y:LC×Int->OS S) (f g:LC) (J1:Int->(LC)->Int->OS S) (rec0:(LC)->Int->OS S) (out6:LC) (i7:Int):OS S:=ac (decide ((i7:Int)<(f.length:Int))) (J1 i7 out6 0) (ab k (mr k out6) fun r7=>Y (r7.1,r7.2))
def pR (k:Nat) (Y:LC×Int->OS S) (f g:LC):Nat->(LC)->Int->OS S
 |0=>fun _ _=> .none
 |m+1=>fun out6 i7=>xu k Y f g (fun i7 out6' v8=>r_ k Y (pR k Y f g m) f g i7 k out6' v8) (pR k Y f g m) out6 i7
def N5 (k:Nat) (Y:LC×Int->OS S) (J0:(LC)->Int->OS S) (f g:LC):OS S:=ab k (hU k f) fun r1=>ac (!r1) (Y (([]:LC),2)) (ab k (hU k g) fun r2=>ac (!r2) (Y (([]:LC),2)) (J0 ([]:LC) 0))
def nD (k:Nat) (f g:LC) (Y:LC×Int->OS S):OS S:=N5 k Y (fun out6 i7=>pR k Y f g k out6 i7) f g
def Cr (k:Nat) (Y:LC×Int->OS S) (f:LC) (rec0:(LC)->Int->Int->OS S) (v4:LC) (v5 i6:Int):OS S:=ac (decide ((i6:Int)<(f.length:Int))) (ac (v5==0) (ag (ai f i6) fun x2=>ab k (Ej k x2) fun r3=>ab k (nD k v4 r3) fun r4=>rec0 r4.1 r4.2 (af .i64 (i6+1))) (Y (v4,v5))) (Y (v4,v5))
def vi (k:Nat) (Y:LC×Int->OS S) (f:LC):Nat->(LC)->Int->Int->OS S
 |0=>fun _ _ _=> .none
 |m+1=>fun v4 v5 i6=>Cr k Y f (vi k Y f m) v4 v5 i6
def N6 (k:Nat) (Y:LC×Int->OS S) (J0:(LC)->Int->Int->OS S) (f:LC):OS S:=ab k (hU k f) fun r1=>ac (!r1) (Y (([]:LC),2)) (J0 [(Cl.mk 0 0)] 0 0)
def uc (k:Nat) (f:LC) (Y:LC×Int->OS S):OS S:=N6 k Y (fun v4 v5 i6=>vi k Y f k v4 v5 i6) f
def yM (k:Nat) (f:LC) (Y:LC×Int->OS S):OS S:=ab k (uc k f) fun r1=>ac (!(r1.2==0)) (Y (([]:LC),r1.2)) (ab k (rm k r1.1) fun r2=>Y (r2.1,r2.2))
def Cu (k:Nat) (Y:LC×Int->OS S) (f g:LC) (i7:Int) (rec0:(LC)->Int->OS S) (rec1:(LC)->Int->OS S) (out6':LC) (v8:Int):OS S:=ac (decide ((v8:Int)<(g.length:Int))) (ag (ai f i7) fun x3=>ag (ai g v8) fun x4=>ab k (yI k x3 x4) fun r5=>ag (aS 1099511627776 out6'.length [r5].length) fun x6=>rec1 (out6'++[r5]) (af .i64 (v8+1))) (rec0 out6' (af .i64 (i7+1)))
def sa (k:Nat) (Y:LC×Int->OS S) (rec0:(LC)->Int->OS S) (f g:LC) (i7:Int):Nat->(LC)->Int->OS S
 |0=>fun _ _=> .none
 |m+1=>fun out6' v8=>Cu k Y f g i7 rec0 (sa k Y rec0 f g i7 m) out6' v8
def xw (k:Nat) (Y:LC×Int->OS S) (f g:LC) (J1:Int->(LC)->Int->OS S) (rec0:(LC)->Int->OS S) (out6:LC) (i7:Int):OS S:=ac (decide ((i7:Int)<(f.length:Int))) (J1 i7 out6 0) (ab k (rm k out6) fun r7=>Y (r7.1,r7.2))
def pT (k:Nat) (Y:LC×Int->OS S) (f g:LC):Nat->(LC)->Int->OS S
 |0=>fun _ _=> .none
 |m+1=>fun out6 i7=>xw k Y f g (fun i7 out6' v8=>sa k Y (pT k Y f g m) f g i7 k out6' v8) (pT k Y f g m) out6 i7
def N9 (k:Nat) (Y:LC×Int->OS S) (J0:(LC)->Int->OS S) (f g:LC):OS S:=ab k (mt k f) fun r1=>ac (!r1) (Y (([]:LC),2)) (ab k (mt k g) fun r2=>ac (!r2) (Y (([]:LC),2)) (J0 ([]:LC) 0))
def pi (k:Nat) (f g:LC) (Y:LC×Int->OS S):OS S:=N9 k Y (fun out6 i7=>pT k Y f g k out6 i7) f g
def kx (k:Nat) (f g:LC) (Y:LC×Int->OS S):OS S:=ab k (mt k f) fun r1=>ac (!r1) (Y (([]:LC),2)) (ab k (mt k g) fun r2=>ac (!r2) (Y (([]:LC),2)) (ag (aS 1099511627776 ([]:LC).length f.length) fun x3=>ag (aS 1099511627776 (([]:LC)++f).length g.length) fun x4=>ab k (rm k ((([]:LC)++f)++g)) fun r5=>Y (r5.1,r5.2)))
def Cv (k:Nat) (Y:LC×Int->OS S) (f:LC) (i:Int) (a_r:LC) (rec0:(LC)->Int->OS S) (v8:LC) (v9:Int):OS S:=ac (decide ((v9:Int)<(f.length:Int))) (ag (ai f v9) fun x3=>ab k (kw k x3.pos i) fun r4=>ab k (kw k x3.neg i) fun r5=>ab k (gF k x3.pos i) fun r6=>ac (r6) (ab k (Ek k a_r) fun r7=>ab k (gF k x3.neg i) fun r8=>ac (r8) (ab k (yM k a_r) fun r9=>ac (r9.2==0) (ab k (pi k [(Cl.mk r4 r5)] r9.1) fun r10=>ac (r10.2==0) (ab k (kx k v8 r10.1) fun r11=>ac (!(r11.2==0)) (Y (([]:LC),r11.2)) (rec0 r11.1 (af .i64 (v9+1)))) (ac (!(r10.2==0)) (Y (([]:LC),r10.2)) (rec0 v8 (af .i64 (v9+1))))) (ac (r9.2==0) (ab k (kx k v8 [(Cl.mk r4 r5)]) fun r12=>ac (!(r12.2==0)) (Y (([]:LC),r12.2)) (rec0 r12.1 (af .i64 (v9+1)))) (ac (!(r9.2==0)) (Y (([]:LC),r9.2)) (rec0 v8 (af .i64 (v9+1)))))) (ac (r7.2==0) (ab k (pi k [(Cl.mk r4 r5)] r7.1) fun r13=>ac (r13.2==0) (ab k (kx k v8 r13.1) fun r14=>ac (!(r14.2==0)) (Y (([]:LC),r14.2)) (rec0 r14.1 (af .i64 (v9+1)))) (ac (!(r13.2==0)) (Y (([]:LC),r13.2)) (rec0 v8 (af .i64 (v9+1))))) (ac (r7.2==0) (ab k (kx k v8 [(Cl.mk r4 r5)]) fun r15=>ac (!(r15.2==0)) (Y (([]:LC),r15.2)) (rec0 r15.1 (af .i64 (v9+1)))) (ac (!(r7.2==0)) (Y (([]:LC),r7.2)) (rec0 v8 (af .i64 (v9+1))))))) (ab k (gF k x3.neg i) fun r16=>ac (r16) (ab k (yM k a_r) fun r17=>ac (r17.2==0) (ab k (pi k [(Cl.mk r4 r5)] r17.1) fun r18=>ac (r18.2==0) (ab k (kx k v8 r18.1) fun r19=>ac (!(r19.2==0)) (Y (([]:LC),r19.2)) (rec0 r19.1 (af .i64 (v9+1)))) (ac (!(r18.2==0)) (Y (([]:LC),r18.2)) (rec0 v8 (af .i64 (v9+1))))) (ac (r17.2==0) (ab k (kx k v8 [(Cl.mk r4 r5)]) fun r20=>ac (!(r20.2==0)) (Y (([]:LC),r20.2)) (rec0 r20.1 (af .i64 (v9+1)))) (ac (!(r17.2==0)) (Y (([]:LC),r17.2)) (rec0 v8 (af .i64 (v9+1)))))) (ab k (pi k [(Cl.mk r4 r5)] [(Cl.mk 0 0)]) fun r21=>ac (r21.2==0) (ab k (kx k v8 r21.1) fun r22=>ac (!(r22.2==0)) (Y (([]:LC),r22.2)) (rec0 r22.1 (af .i64 (v9+1)))) (ac (!(r21.2==0)) (Y (([]:LC),r21.2)) (rec0 v8 (af .i64 (v9+1))))))) (Y (v8,0))
def sb (k:Nat) (Y:LC×Int->OS S) (f:LC) (i:Int) (a_r:LC):Nat->(LC)->Int->OS S
 |0=>fun _ _=> .none
 |m+1=>fun v8 v9=>Cv k Y f i a_r (sb k Y f i a_r m) v8 v9
def N_ (k:Nat) (Y:LC×Int->OS S) (J0:(LC)->Int->OS S) (f:LC) (i:Int) (a_r:LC):OS S:=ab k (mt k f) fun r1=>ac (!r1) (Y (([]:LC),2)) (ac (decide ((i:Int)<0)) (Y (([]:LC),2)) (ac (decide ((i:Int)>=24)) (Y (([]:LC),2)) (ab k (hU k a_r) fun r2=>ac (!r2) (Y (([]:LC),2)) (J0 [] 0))))
def Em (k:Nat) (f:LC) (i:Int) (a_r:LC) (Y:LC×Int->OS S):OS S:=N_ k Y (fun v8 v9=>sb k Y f i a_r k v8 v9) f i a_r
def Eh (k:Nat) (f g:LC) (Y:LC×Int->OS S):OS S:=ab k (hU k f) fun r1=>ac (!r1) (Y (([]:LC),2)) (ab k (hU k g) fun r2=>ac (!r2) (Y (([]:LC),2)) (ag (aS 1099511627776 ([]:LC).length f.length) fun x3=>ag (aS 1099511627776 (([]:LC)++f).length g.length) fun x4=>ab k (mr k ((([]:LC)++f)++g)) fun r5=>Y (r5.1,r5.2)))
def IH (k:Nat) (Y:LC×Int->OS S) (f:LC) (i:Int) (a_r v8:LC) (v9:Int) (rec0:(LC)->Int->OS S) (g11:LC) (v12:Int):OS S:=ac (v12==0) (ab k (Eh k v8 g11) fun r11=>ac (!(r11.2==0)) (Y (([]:LC),r11.2)) (rec0 r11.1 (af .i64 (v9+1)))) (ac (!(v12==0)) (Y (([]:LC),v12)) (rec0 v8 (af .i64 (v9+1))))
def vj (k:Nat) (Y:LC×Int->OS S) (rec0:(LC)->Int->OS S) (f:LC) (i:Int) (a_r v8:LC) (v9:Int):Nat->(LC)->Int->OS S
 |0=>fun _ _=> .none
 |_+1=>fun g11 v12=>IH k Y f i a_r v8 v9 rec0 g11 v12
def xv (k:Nat) (Y:LC×Int->OS S) (f:LC) (i:Int) (a_r:LC) (J1:(LC)->Int->(LC)->Int->OS S) (rec0:(LC)->Int->OS S) (v8:LC) (v9:Int):OS S:=ac (decide ((v9:Int)<(f.length:Int))) (ag (ai f v9) fun x3=>ab k (kw k x3.pos i) fun r4=>ab k (kw k x3.neg i) fun r5=>ab k (gF k x3.pos i) fun r6=>ac (r6) (ab k (nD k [(Cl.mk r4 r5)] a_r) fun r7=>ac (r7.2==0) (ab k (gF k x3.neg i) fun r8=>ac (r8) (ab k (uc k a_r) fun r9=>ac (r9.2==0) (ab k (nD k r7.1 r9.1) fun r10=>J1 v8 v9 r10.1 r10.2) (J1 v8 v9 r7.1 r9.2)) (J1 v8 v9 r7.1 r7.2)) (J1 v8 v9 r7.1 r7.2)) (ab k (gF k x3.neg i) fun r12=>ac (r12) (ab k (uc k a_r) fun r13=>ac (r13.2==0) (ab k (nD k [(Cl.mk r4 r5)] r13.1) fun r14=>J1 v8 v9 r14.1 r14.2) (J1 v8 v9 [(Cl.mk r4 r5)] r13.2)) (J1 v8 v9 [(Cl.mk r4 r5)] 0))) (Y (v8,0))
def pS (k:Nat) (Y:LC×Int->OS S) (f:LC) (i:Int) (a_r:LC):Nat->(LC)->Int->OS S
 |0=>fun _ _=> .none
 |m+1=>fun v8 v9=>xv k Y f i a_r (fun v8 v9 g11 v12=>vj k Y (pS k Y f i a_r m) f i a_r v8 v9 k g11 v12) (pS k Y f i a_r m) v8 v9
def N7 (k:Nat) (Y:LC×Int->OS S) (J0:(LC)->Int->OS S) (f:LC) (i:Int) (a_r:LC):OS S:=ab k (hU k f) fun r1=>ac (!r1) (Y (([]:LC),2)) (ab k (hU k a_r) fun r2=>ac (!r2) (Y (([]:LC),2)) (ac (decide ((i:Int)<0)) (Y (([]:LC),2)) (ac (decide ((i:Int)>=24)) (Y (([]:LC),2)) (J0 [] 0))))
def Ei (k:Nat) (f:LC) (i:Int) (a_r:LC) (Y:LC×Int->OS S):OS S:=N7 k Y (fun v8 v9=>pS k Y f i a_r k v8 v9) f i a_r
def yU (k:Nat) (f:LC) (isFace:Bool) (i:Int) (a_r:LC) (depth:Int) (Y:LC×Int->OS S):OS S:=ab k (yL k f) fun r1=>ab k (gF k r1 (af .i64 (i+depth))) fun r2=>ac (!r2) (Y (f,0)) (ab k (nC k a_r 0 depth) fun r3=>ac (!(r3.2==0)) (Y (([]:LC),r3.2)) (ac (isFace) (ab k (Em k f (af .i64 (i+depth)) r3.1) fun r4=>Y (r4.1,r4.2)) (ab k (Ei k f (af .i64 (i+depth)) r3.1) fun r5=>Y (r5.1,r5.2))))
def Ce (k:Nat) (Y:Int->OS S) (i:Int) (rec0:(List Int)->Int->OS S) (l5:List Int) (v6:Int):OS S:=ac (decide ((v6:Int)<(l5.length:Int))) (ac (decide ((i:Int)>=0)) (ag (ai l5 v6) fun x3=>ag (ai l5 v6) fun x4=>ac (decide ((x4:Int)>i)) (ag (ai l5 v6) fun x5=>ag (ai l5 v6) fun x6=>ag (ai l5 v6) fun x7=>ag (ai l5 v6) fun x8=>rec0 (l5.set (cW v6) (af .i64 (x6-1))) (af .i64 (v6+1))) (rec0 l5 (af .i64 (v6+1)))) (rec0 l5 (af .i64 (v6+1)))) (ab k (mq k l5) fun r9=>Y r9)
def rW (k:Nat) (Y:Int->OS S) (i:Int):Nat->(List Int)->Int->OS S
 |0=>fun _ _=> .none
 |m+1=>fun l5 v6=>Ce k Y i (rW k Y i m) l5 v6
def NR (k:Nat) (Y:Int->OS S) (J0:(List Int)->Int->OS S) (s i:Int):OS S:=ab k (kw k s i) fun r1=>ab k (mo k r1) fun r2=>J0 r2 0
def t_ (k:Nat) (s i:Int) (Y:Int->OS S):OS S:=NR k Y (fun l5 v6=>rW k Y i k l5 v6) s i
def CM (k:Nat) (Y:LC->OS S) (f:LC) (i:Int) (rec0:(LC)->Int->OS S) (out5:LC) (v6:Int):OS S:=ac (decide ((v6:Int)<(f.length:Int))) (ag (ai f v6) fun x1=>ab k (t_ k x1.pos i) fun r2=>ag (ai f v6) fun x3=>ab k (t_ k x3.neg i) fun r4=>ag (aS 1099511627776 out5.length [(Cl.mk r2 r4)].length) fun x5=>rec0 (out5++[(Cl.mk r2 r4)]) (af .i64 (v6+1))) (ab k (mr k out5) fun r6=>Y r6.1)
def vw (k:Nat) (Y:LC->OS S) (f:LC) (i:Int):Nat->(LC)->Int->OS S
 |0=>fun _ _=> .none
 |m+1=>fun out5 v6=>CM k Y f i (vw k Y f i m) out5 v6
def Ot (k:Nat) (Y:LC->OS S) (J0:(LC)->Int->OS S) (f:LC) (i:Int):OS S:=J0 ([]:LC) 0
def yT (k:Nat) (f:LC) (i:Int) (Y:LC->OS S):OS S:=Ot k Y (fun out5 v6=>vw k Y f i k out5 v6) f i
abbrev ld (S:Type):=Tm->Int->(LC)->Int->Bool->(Tm->OS S)->OS S
def CN (hd:ld S) (k:Nat) (Y:Tm->OS S) (t:Tm) (ce:LC) (b11_4:LT) (b11_5:LB) (i v18:Int) (a_r:LC) (depth:Int) (drop:Bool) (rec1:(LB)->Int->OS S) (rec2:(LC)->(LT)->Int->OS S) (ik:LC) (b21_1:LT) (v22:Int):OS S:=ag (ai t.sys v18) fun x12=>ac (decide ((v22:Int)<(x12.kids.length:Int))) (ag (ai t.sys v18) fun x13=>ag (ai x13.kids v22) fun x14=>ab k (pm k t.kind) fun r15=>hd (ae x14) i a_r (af .i64 (depth+r15)) drop fun r16=>ac (decide ((r16.kind:Int)<0)) (Y (ae r16)) (ag (aS 1099511627776 b21_1.length [(ae r16)].length) fun x17=>rec2 ik (b21_1++[(ae r16)]) (af .i64 (v22+1)))) (ag (aS 1099511627776 b11_5.length [(Br.mk ik b21_1)].length) fun x18=>rec1 (b11_5++[(Br.mk ik b21_1)]) (af .i64 (v18+1)))
def oj (hd:ld S) (k:Nat) (Y:Tm->OS S) (rec1:(LB)->Int->OS S) (t:Tm) (ce:LC) (b11_4:LT) (b11_5:LB) (i v18:Int) (a_r:LC) (depth:Int) (drop:Bool):Nat->(LC)->(LT)->Int->OS S
 |0=>fun _ _ _=> .none
 |m+1=>fun ik b21_1 v22=>CN hd k Y t ce b11_4 b11_5 i v18 a_r depth drop rec1 (oj hd k Y rec1 t ce b11_4 b11_5 i v18 a_r depth drop m) ik b21_1 v22
def xV (hd:ld S) (k:Nat) (Y:Tm->OS S) (t:Tm) (ce:LC) (b11_4:LT) (i:Int) (a_r:LC) (depth:Int) (drop:Bool) (J2:(LB)->Int->(LC)->(LT)->Int->OS S) (rec1:(LB)->Int->OS S) (b11_5:LB) (v18:Int):OS S:=ac (decide ((v18:Int)<(t.sys.length:Int))) (ag (ai t.sys v18) fun x8=>ab k (yU k x8.face true i a_r depth) fun r9=>ac (!(r9.2==0)) (ab k (e_ k r9.2) fun r10=>Y (Tm.mk r10.1 r10.2.1 r10.2.2 [] [] [])) (ac ((r9.1.length:Int)==0) (rec1 b11_5 (af .i64 (v18+1))) (ac (drop) (ab k (yT k r9.1 (af .i64 (i+depth))) fun r11=>J2 b11_5 v18 r11 ([]:LT) 0) (J2 b11_5 v18 r9.1 ([]:LT) 0)))) (Y (Tm.mk t.kind t.n t.name ce b11_4 b11_5))
def lH (hd:ld S) (k:Nat) (Y:Tm->OS S) (t:Tm) (ce:LC) (b11_4:LT) (i:Int) (a_r:LC) (depth:Int) (drop:Bool):Nat->(LB)->Int->OS S
 |0=>fun _ _=> .none
 |m+1=>fun b11_5 v18=>xV hd k Y t ce b11_4 i a_r depth drop (fun b11_5 v18 ik b21_1 v22=>oj hd k Y (lH hd k Y t ce b11_4 i a_r depth drop m) t ce b11_4 b11_5 i v18 a_r depth drop k ik b21_1 v22) (lH hd k Y t ce b11_4 i a_r depth drop m) b11_5 v18
def xU (hd:ld S) (k:Nat) (Y:Tm->OS S) (t:Tm) (i:Int) (a_r:LC) (depth:Int) (drop:Bool) (J1:(LC)->(LT)->(LB)->Int->OS S) (rec0:(LC)->(LT)->Int->OS S) (ce:LC) (b11_4:LT) (v14:Int):OS S:=ac (decide ((v14:Int)<(t.kids.length:Int))) (ab k (pj k t.kind v14) fun r4=>ag (ai t.kids v14) fun x5=>hd (ae x5) i a_r (af .i64 (depth+r4.2)) drop fun r6=>ac (decide ((r6.kind:Int)<0)) (Y (ae r6)) (ag (aS 1099511627776 b11_4.length [(ae r6)].length) fun x7=>rec0 ce (b11_4++[(ae r6)]) (af .i64 (v14+1)))) (J1 ce b11_4 ([]:LB) 0)
def pY (hd:ld S) (k:Nat) (Y:Tm->OS S) (t:Tm) (i:Int) (a_r:LC) (depth:Int) (drop:Bool):Nat->(LC)->(LT)->Int->OS S
 |0=>fun _ _ _=> .none
 |m+1=>fun ce b11_4 v14=>xU hd k Y t i a_r depth drop (fun ce b11_4 b11_5 v18=>lH hd k Y t ce b11_4 i a_r depth drop k b11_5 v18) (pY hd k Y t i a_r depth drop m) ce b11_4 v14
def Ou (hd:ld S) (k:Nat) (Y:Tm->OS S) (J0:(LC)->(LT)->Int->OS S) (t:Tm) (i:Int) (a_r:LC) (depth:Int) (drop:Bool):OS S:=ab k (yU k t.r (t.kind==14) i a_r depth) fun r1=>ac (!(r1.2==0)) (ab k (e_ k r1.2) fun r2=>Y (Tm.mk r2.1 r2.2.1 r2.2.2 [] [] [])) (ac (drop) (ab k (yT k r1.1 (af .i64 (i+depth))) fun r3=>J0 r3 ([]:LT) 0) (J0 r1.1 ([]:LT) 0))
def jO:Nat->Tm->Int->(LC)->Int->Bool->(Tm->OS S)->OS S
 |0=>fun _ _ _ _ _ _=> .none
 |k+1=>fun t i a_r depth drop Y=>Ou (jO k) k Y (fun ce b11_4 v14=>pY (jO k) k Y t i a_r depth drop k ce b11_4 v14) t i a_r depth drop
def rn (k:Nat) (t:Tm) (i:Int) (a_r:LC) (Y:Tm->OS S):OS S:=ac (decide ((t.kind:Int)<0)) (Y (ae t)) (ab k (nC k a_r i 1) fun r1=>ac (!(r1.2==0)) (ab k (e_ k r1.2) fun r2=>Y (Tm.mk r2.1 r2.2.1 r2.2.2 [] [] [])) (jO k (ae t) i r1.1 0 true fun r3=>Y (ae r3)))
def DU (k:Nat) (t:Tm) (Y:Bool->OS S):OS S:=ky k (ae t) 100 fun r1=>Y (decide ((r1:Int)>100))
def jM (k:Nat) (kind:Int) (kids:LT) (Y:Int×Int×BA×LT->OS S):OS S:=Y (kind,0,au,kids)
def DP (k:Nat) (u:Tm) (gA eN eO:Int) (eP:BA) (eQ:LC) (eR:LT) (eS fH:LB) (Y:LT×Int->OS S):OS S:=ab k (gU k (ae u) 1 0 gA) fun r1=>ab k (yE k 0) fun r2=>ab k (fJ k 6 [(ae r1.1),(Tm.mk r2.1 r2.2.1 r2.2.2 [] [] [])]) fun r3=>Y ([(Tm.mk r3.1 r3.2.1 r3.2.2.1 [] r3.2.2.2 [])],r1.2)
def B4 (k:Nat) (Y:LB×Int->OS S) (aL aM:Int) (aN:BA) (aO:LC) (aP:LT) (aQ c0_7:LB) (rec0:Int->Int->(LB)->OS S) (bu v13:Int) (out5:LB):OS S:=ac (decide ((v13:Int)<(c0_7.length:Int))) (ag (ai c0_7 v13) fun x1=>ag (ai x1.kids 0) fun x2=>ab k (DP k (ae x2) bu aL aM aN aO aP aQ c0_7) fun r3=>ab k (gh k x1.face r3.1) fun r4=>ag (aS 1099511627776 out5.length [r4].length) fun x5=>rec0 r3.2 (af .i64 (v13+1)) (out5++[r4])) (Y (out5,bu))
def u5 (k:Nat) (Y:LB×Int->OS S) (aL aM:Int) (aN:BA) (aO:LC) (aP:LT) (aQ c0_7:LB):Nat->Int->Int->(LB)->OS S
 |0=>fun _ _ _=> .none
 |m+1=>fun bu v13 out5=>B4 k Y aL aM aN aO aP aQ c0_7 (u5 k Y aL aM aN aO aP aQ c0_7 m) bu v13 out5
def NM (k:Nat) (Y:LB×Int->OS S) (J0:Int->Int->(LB)->OS S) (bk aL aM:Int) (aN:BA) (aO:LC) (aP:LT) (aQ c0_7:LB):OS S:=J0 bk 0 ([]:LB)
def tW (k:Nat) (bk aL aM:Int) (aN:BA) (aO:LC) (aP:LT) (aQ c0_7:LB) (Y:LB×Int->OS S):OS S:=NM k Y (fun bu v13 out5=>u5 k Y aL aM aN aO aP aQ c0_7 k bu v13 out5) bk aL aM aN aO aP aQ c0_7
def DQ (k:Nat) (t:Tm) (bk aL aM:Int) (aN:BA) (aO:LC) (aP:LT) (aQ c0_7:LB) (Y:Int×Int×BA×LT×Int->OS S):OS S:=ab k (gU k (Tm.mk aL aM aN aO aP aQ) 1 0 bk) fun r1=>ab k (yE k 0) fun r2=>ab k (fJ k 6 [(ae r1.1),(Tm.mk r2.1 r2.2.1 r2.2.2 [] [] [])]) fun r3=>ab k (tW k r1.2 aL aM aN aO aP aQ c0_7) fun r4=>ag (ai t.kids 1) fun x5=>ab k (gi k 15 r4.1 [(ae x5),(Tm.mk r3.1 r3.2.1 r3.2.2.1 [] r3.2.2.2 [])]) fun r6=>ab k (fJ k 5 [(Tm.mk r6.1 r6.2.1 r6.2.2.1 [] r6.2.2.2.1 r6.2.2.2.2)]) fun r7=>Y (r7.1,r7.2.1,r7.2.2.1,r7.2.2.2,r4.2)
def Jo (k:Nat) (u:Tm) (c0:Int) (Y:LT->OS S):OS S:=ab k (fJ k c0 [(ae u)]) fun r1=>Y [(Tm.mk r1.1 r1.2.1 r1.2.2.1 [] r1.2.2.2 [])]
def B6 (k:Nat) (Y:LB->OS S) (bk aL aM:Int) (aN:BA) (aO:LC) (aP:LT) (aQ c0_7:LB) (c1:Int) (rec0:Int->(LB)->OS S) (v13:Int) (out5:LB):OS S:=ac (decide ((v13:Int)<(c0_7.length:Int))) (ag (ai c0_7 v13) fun x1=>ag (ai x1.kids 0) fun x2=>ab k (Jo k (ae x2) c1) fun r3=>ab k (gh k x1.face r3) fun r4=>ag (aS 1099511627776 out5.length [r4].length) fun x5=>rec0 (af .i64 (v13+1)) (out5++[r4])) (Y out5)
def u7 (k:Nat) (Y:LB->OS S) (bk aL aM:Int) (aN:BA) (aO:LC) (aP:LT) (aQ c0_7:LB) (c1:Int):Nat->Int->(LB)->OS S
 |0=>fun _ _=> .none
 |m+1=>fun v13 out5=>B6 k Y bk aL aM aN aO aP aQ c0_7 c1 (u7 k Y bk aL aM aN aO aP aQ c0_7 c1 m) v13 out5
def NO (k:Nat) (Y:LB->OS S) (J0:Int->(LB)->OS S) (bk aL aM:Int) (aN:BA) (aO:LC) (aP:LT) (aQ c0_7:LB) (c1:Int):OS S:=J0 0 ([]:LB)
def tY (k:Nat) (bk aL aM:Int) (aN:BA) (aO:LC) (aP:LT) (aQ c0_7:LB) (c1:Int) (Y:LB->OS S):OS S:=NO k Y (fun v13 out5=>u7 k Y bk aL aM aN aO aP aQ c0_7 c1 k v13 out5) bk aL aM aN aO aP aQ c0_7 c1
def yA (k:Nat) (kind gA eN eO:Int) (eP:BA) (eQ:LC) (eR:LT) (eS fH:LB) (Y:Int×Int×BA×LT×LB->OS S):OS S:=ab k (fJ k kind [(Tm.mk eN eO eP eQ eR eS)]) fun r1=>ab k (tY k gA eN eO eP eQ eR eS fH kind) fun r2=>Y (r1.1,r1.2.1,r1.2.2.1,r1.2.2.2,r2)
def tv (k:Nat) (Y:Tm×Int->OS S) (a:Tm) (r5:Int×Int×BA×LT) (sys:LB) (rec0:Int->(LB)->Int->OS S) (dt:Int) (b9_5:LB) (v29:Int):OS S:=ac (decide ((v29:Int)<(sys.length:Int))) (ag (ai sys v29) fun x6=>ab k (eT k dt) fun r7=>ac (!r7) (ab k (eB k (ae a) 0 2 dt) fun r8=>ag (aS 1099511627776 b9_5.length [(Br.mk [(Cl.mk 0 1)] [(ae r8.1)])].length) fun x9=>ab k (g_ k (Tm.mk r5.1 r5.2.1 r5.2.2.1 [] r5.2.2.2 (b9_5++[(Br.mk [(Cl.mk 0 1)] [(ae r8.1)])])) r8.2) fun r10=>Y ((ae r10.1),r10.2.1)) (ab k (yn k x6.face dt) fun r11=>ag (ai x6.kids 0) fun x12=>ab k (o9 k (ae x12) [(Cl.mk 3 0)] r11.2) fun r13=>ag (aS 1099511627776 b9_5.length [(Br.mk r11.1 [(ae r13.1)])].length) fun x14=>rec0 r13.2 (b9_5++[(Br.mk r11.1 [(ae r13.1)])]) (af .i64 (v29+1)))) (ab k (eB k (ae a) 0 2 dt) fun r15=>ag (aS 1099511627776 b9_5.length [(Br.mk [(Cl.mk 0 1)] [(ae r15.1)])].length) fun x16=>ab k (g_ k (Tm.mk r5.1 r5.2.1 r5.2.2.1 [] r5.2.2.2 (b9_5++[(Br.mk [(Cl.mk 0 1)] [(ae r15.1)])])) r15.2) fun r17=>Y ((ae r17.1),r17.2.1))
def kK (k:Nat) (Y:Tm×Int->OS S) (a:Tm) (r5:Int×Int×BA×LT) (sys:LB):Nat->Int->(LB)->Int->OS S
 |0=>fun _ _ _=> .none
 |m+1=>fun dt b9_5 v29=>tv k Y a r5 sys (kK k Y a r5 sys m) dt b9_5 v29
def Nm (k:Nat) (Y:Tm×Int->OS S) (J0:(Int×Int×BA×LT)->Int->(LB)->Int->OS S) (t a:Tm) (sys:LB):OS S:=ab k (tN k sys) fun r1=>ab k (o8 k [(ae t),(ae a),(Tm.mk r1.1 r1.2.1 r1.2.2.1 [] r1.2.2.2.1 r1.2.2.2.2)]) fun r2=>ab k (eB k (ae t) 0 1 r2) fun r3=>ab k (eB k (ae a) 0 1 r3.2) fun r4=>ab k (c8 k 15 [(ae r3.1),(ae r4.1)]) fun r5=>J0 r5 r4.2 ([]:LB) 0
def Di (k:Nat) (t a:Tm) (sys:LB) (Y:Tm×Int->OS S):OS S:=Nm k Y (fun r5 dt b9_5 v29=>kK k Y a r5 sys k dt b9_5 v29) t a sys
def yD (k:Nat) (t a:Tm) (sys:LB) (c0:Int) (Y:Tm×Int->OS S):OS S:=ab k (eb k c0) fun r1=>ac (!r1) (Y ((Tm.mk 0 0 au [] [] []),c0)) (ab k (Di k (ae t) (ae a) sys) fun r2=>ab k (jh k (ae r2.1) r2.2 c0) fun r3=>Y ((ae r3.1),r3.2))
def DR (k:Nat) (t:Tm) (bk aL aM:Int) (aN:BA) (aO:LC) (aP:LT) (aQ c0_7:LB) (Y:Int×Int×BA×LT×Int->OS S):OS S:=ab k (yA k 9 bk aL aM aN aO aP aQ c0_7) fun r1=>ab k (yA k 10 bk aL aM aN aO aP aQ c0_7) fun r2=>ag (ai t.kids 0) fun x3=>ab k (yD k (ae x3) (Tm.mk r1.1 r1.2.1 r1.2.2.1 [] r1.2.2.2.1 []) r1.2.2.2.2 bk) fun r4=>ag (ai t.kids 1) fun x5=>ab k (D4 k (ae x5) 0 1 r4.2) fun r6=>ab k (D9 k (ae r6.1) (ae r4.1) r6.2) fun r7=>ag (ai t.kids 0) fun x8=>ab k (gi k 15 r1.2.2.2.2 [(ae x8),(Tm.mk r1.1 r1.2.1 r1.2.2.1 [] r1.2.2.2.1 [])]) fun r9=>ab k (D5 k (ae r7.1) (Tm.mk r2.1 r2.2.1 r2.2.2.1 [] r2.2.2.2.1 []) r2.2.2.2.2 r7.2) fun r10=>ab k (fJ k 8 [(Tm.mk r9.1 r9.2.1 r9.2.2.1 [] r9.2.2.2.1 r9.2.2.2.2),(ae r10.1)]) fun r11=>Y (r11.1,r11.2.1,r11.2.2.1,r11.2.2.2,r10.2)
def B3 (k:Nat) (Y:Int×Int×BA×LT×Int->OS S) (aL aM:Int) (aN:BA) (aO:LC) (aP:LT) (aQ c0_7:LB) (t x1 x2:Tm) (r6:Int×Int×BA×LC×LT) (rec0:Int->(LB)->Int->OS S) (bu:Int) (sys10:LB) (v53:Int):OS S:=ac (decide ((v53:Int)<(c0_7.length:Int))) (ag (ai c0_7 v53) fun x7=>ab k (D_ k x7.face 1 bu) fun r8=>ag (ai x7.kids 0) fun x9=>ab k (D8 k (ae x9) 1 r8.2) fun r10=>ab k (gU k (ae x1) 0 2 r10.2) fun r11=>ab k (gU k (ae x2) 0 2 r11.2) fun r12=>ab k (yF k 13 [(Cl.mk 2 0)] [(ae r10.1),(ae r11.1),(ae r12.1)]) fun r13=>ab k (gh k r8.1 [(Tm.mk r13.1 r13.2.1 r13.2.2.1 r13.2.2.2.1 r13.2.2.2.2 [])]) fun r14=>ag (aS 1099511627776 sys10.length [r14].length) fun x15=>rec0 r12.2 (sys10++[r14]) (af .i64 (v53+1))) (ab k (gU k (ae x1) 0 2 bu) fun r16=>ab k (gh k [(Cl.mk 0 1)] [(ae r16.1)]) fun r17=>ag (aS 1099511627776 sys10.length [r17].length) fun x18=>ab k (gU k (ae x2) 0 2 r16.2) fun r19=>ab k (gh k [(Cl.mk 1 0)] [(ae r19.1)]) fun r20=>ag (aS 1099511627776 (sys10++[r17]).length [r20].length) fun x21=>ag (ai t.kids 0) fun x22=>ab k (gi k 15 ((sys10++[r17])++[r20]) [(ae x22),(Tm.mk r6.1 r6.2.1 r6.2.2.1 r6.2.2.2.1 r6.2.2.2.2 [])]) fun r23=>ab k (fJ k 12 [(Tm.mk r23.1 r23.2.1 r23.2.2.1 [] r23.2.2.2.1 r23.2.2.2.2)]) fun r24=>Y (r24.1,r24.2.1,r24.2.2.1,r24.2.2.2,r19.2))
def u4 (k:Nat) (Y:Int×Int×BA×LT×Int->OS S) (aL aM:Int) (aN:BA) (aO:LC) (aP:LT) (aQ c0_7:LB) (t x1 x2:Tm) (r6:Int×Int×BA×LC×LT):Nat->Int->(LB)->Int->OS S
 |0=>fun _ _ _=> .none
 |m+1=>fun bu sys10 v53=>B3 k Y aL aM aN aO aP aQ c0_7 t x1 x2 r6 (u4 k Y aL aM aN aO aP aQ c0_7 t x1 x2 r6 m) bu sys10 v53
def NL (k:Nat) (Y:Int×Int×BA×LT×Int->OS S) (J0:Tm->Tm->(Int×Int×BA×LC×LT)->Int->(LB)->Int->OS S) (t:Tm) (bk aL aM:Int) (aN:BA) (aO:LC) (aP:LT) (aQ c0_7:LB):OS S:=ag (ai t.kids 1) fun x1=>ag (ai t.kids 2) fun x2=>ab k (gU k (Tm.mk aL aM aN aO aP aQ) 0 1 bk) fun r3=>ab k (gU k (ae x1) 0 1 r3.2) fun r4=>ab k (gU k (ae x2) 0 1 r4.2) fun r5=>ab k (yF k 13 [(Cl.mk 1 0)] [(ae r3.1),(ae r4.1),(ae r5.1)]) fun r6=>J0 x1 x2 r6 r5.2 ([]:LB) 0
def DO (k:Nat) (t:Tm) (bk aL aM:Int) (aN:BA) (aO:LC) (aP:LT) (aQ c0_7:LB) (Y:Int×Int×BA×LT×Int->OS S):OS S:=NL k Y (fun x1 x2 r6 bu sys10 v53=>u4 k Y aL aM aN aO aP aQ c0_7 t x1 x2 r6 k bu sys10 v53) t bk aL aM aN aO aP aQ c0_7
def yl (k:Nat) (t:Tm) (c0:Int) (Y:Int×Int×BA×LT×Int->OS S):OS S:=ab k (eB k (ae t) 1 0 c0) fun r1=>ab k (eB k (ae t) 2 1 r1.2) fun r2=>ab k (iO k 1) fun r3=>ab k (iO k 0) fun r4=>ab k (c8 k 11 [(ae r2.1),(Tm.mk r3.1 r3.2.1 r3.2.2 [] [] []),(Tm.mk r4.1 r4.2.1 r4.2.2 [] [] [])]) fun r5=>ab k (c8 k 4 [(ae r1.1),(Tm.mk r5.1 r5.2.1 r5.2.2.1 [] r5.2.2.2 [])]) fun r6=>ab k (c8 k 7 [(ae t),(Tm.mk r6.1 r6.2.1 r6.2.2.1 [] r6.2.2.2 [])]) fun r7=>Y (r7.1,r7.2.1,r7.2.2.1,r7.2.2.2,r2.2)
def Dh (k:Nat) (t a:Tm) (Y:Tm×Int->OS S):OS S:=ab k (o8 k [(ae t),(ae a)]) fun r1=>fc k (ae t) fun r2=>ab k (eB k (ae a) 1 0 r1) fun r3=>ab k (c8 k 4 [(ae r2),(ae r3.1)]) fun r4=>ab k (eB k (ae a) 1 0 r3.2) fun r5=>ab k (eB k (ae t) 2 0 r5.2) fun r6=>ab k (eB k (ae a) 2 0 r6.2) fun r7=>ab k (iO k 1) fun r8=>ab k (iO k 0) fun r9=>ab k (ym k (ae r6.1) (ae r7.1) (Tm.mk r8.1 r8.2.1 r8.2.2 [] [] []) (Tm.mk r9.1 r9.2.1 r9.2.2 [] [] []) r7.2) fun r10=>ab k (yl k (Tm.mk r10.1 r10.2.1 r10.2.2.1 [] r10.2.2.2.1 []) r10.2.2.2.2) fun r11=>ab k (c8 k 4 [(ae r5.1),(Tm.mk r11.1 r11.2.1 r11.2.2.1 [] r11.2.2.2.1 [])]) fun r12=>ab k (c8 k 7 [(Tm.mk r4.1 r4.2.1 r4.2.2.1 [] r4.2.2.2 []),(Tm.mk r12.1 r12.2.1 r12.2.2.1 [] r12.2.2.2 [])]) fun r13=>ab k (g_ k (Tm.mk r13.1 r13.2.1 r13.2.2.1 [] r13.2.2.2 []) r11.2.2.2.2) fun r14=>Y ((ae r14.1),r14.2.1)
def D7 (k:Nat) (t a:Tm) (c0:Int) (Y:Tm×Int->OS S):OS S:=ab k (eb k c0) fun r1=>ac (!r1) (Y ((Tm.mk 0 0 au [] [] []),c0)) (ab k (Dh k (ae t) (ae a)) fun r2=>ab k (jh k (ae r2.1) r2.2 c0) fun r3=>Y ((ae r3.1),r3.2))
def I8 (k:Nat) (a_r:LC) (Y:Int×Int×BA×LC×LT->OS S):OS S:=ab k (iO k 0) fun r1=>ab k (c8 k 10 [(Tm.mk r1.1 r1.2.1 r1.2.2 [] [] [])]) fun r2=>ab k (iO k 1) fun r3=>ab k (iO k 0) fun r4=>ab k (c8 k 9 [(Tm.mk r4.1 r4.2.1 r4.2.2 [] [] [])]) fun r5=>Y (13,0,au,a_r,[(Tm.mk r2.1 r2.2.1 r2.2.2.1 [] r2.2.2.2 []),(Tm.mk r3.1 r3.2.1 r3.2.2 [] [] []),(Tm.mk r5.1 r5.2.1 r5.2.2.1 [] r5.2.2.2 [])])
def Dj (k:Nat) (Y:Int×Int×BA×LT->OS S):OS S:=ab k (iO k 0) fun r1=>ab k (iO k 0) fun r2=>ab k (c8 k 12 [(Tm.mk r2.1 r2.2.1 r2.2.2 [] [] [])]) fun r3=>ab k (c8 k 8 [(Tm.mk r1.1 r1.2.1 r1.2.2 [] [] []),(Tm.mk r3.1 r3.2.1 r3.2.2.1 [] r3.2.2.2 [])]) fun r4=>ab k (I8 k [(Cl.mk 1 0)]) fun r5=>ab k (I8 k [(Cl.mk 3 0)]) fun r6=>ab k (c8 k 12 [(Tm.mk r6.1 r6.2.1 r6.2.2.1 r6.2.2.2.1 r6.2.2.2.2 [])]) fun r7=>ab k (c8 k 8 [(Tm.mk r5.1 r5.2.1 r5.2.2.1 r5.2.2.2.1 r5.2.2.2.2 []),(Tm.mk r7.1 r7.2.1 r7.2.2.1 [] r7.2.2.2 [])]) fun r8=>ab k (c8 k 12 [(Tm.mk r8.1 r8.2.1 r8.2.2.1 [] r8.2.2.2 [])]) fun r9=>ab k (c8 k 5 [(Tm.mk r9.1 r9.2.1 r9.2.2.1 [] r9.2.2.2 [])]) fun r10=>ab k (iO k 0) fun r11=>ab k (c8 k 5 [(Tm.mk r11.1 r11.2.1 r11.2.2 [] [] [])]) fun r12=>ab k (c8 k 8 [(Tm.mk r4.1 r4.2.1 r4.2.2.1 [] r4.2.2.2 []),(Tm.mk r10.1 r10.2.1 r10.2.2.1 [] r10.2.2.2 [])]) fun r13=>ab k (c8 k 5 [(Tm.mk r13.1 r13.2.1 r13.2.2.1 [] r13.2.2.2 [])]) fun r14=>ab k (c8 k 8 [(Tm.mk r12.1 r12.2.1 r12.2.2.1 [] r12.2.2.2 []),(Tm.mk r14.1 r14.2.1 r14.2.2.1 [] r14.2.2.2 [])]) fun r15=>Y (r15.1,r15.2.1,r15.2.2.1,r15.2.2.2)
def Jp (k:Nat) (u:Tm) (gA eN eO:Int) (eP:BA) (eQ:LC) (eR:LT) (eS fH:LB) (Y:LT×Int->OS S):OS S:=ab k (D6 k (ae u) gA) fun r1=>ab k (gU k (Tm.mk eN eO eP eQ eR eS) 0 1 r1.2) fun r2=>ab k (D7 k (ae u) (ae r2.1) r2.2) fun r3=>ab k (Dj k) fun r4=>ab k (fJ k 14 [(ae r3.1),(Tm.mk r4.1 r4.2.1 r4.2.2.1 [] r4.2.2.2 [])]) fun r5=>Y ([(ae r1.1),(Tm.mk r5.1 r5.2.1 r5.2.2.1 [] r5.2.2.2 [])],r3.2)
def B5 (k:Nat) (Y:LB×Int->OS S) (aL aM:Int) (aN:BA) (aO:LC) (aP:LT) (aQ c0_7:LB) (rec0:Int->Int->(LB)->OS S) (bu v13:Int) (out5:LB):OS S:=ac (decide ((v13:Int)<(c0_7.length:Int))) (ag (ai c0_7 v13) fun x1=>ag (ai x1.kids 0) fun x2=>ab k (Jp k (ae x2) bu aL aM aN aO aP aQ c0_7) fun r3=>ab k (gh k x1.face r3.1) fun r4=>ag (aS 1099511627776 out5.length [r4].length) fun x5=>rec0 r3.2 (af .i64 (v13+1)) (out5++[r4])) (Y (out5,bu))
def u6 (k:Nat) (Y:LB×Int->OS S) (aL aM:Int) (aN:BA) (aO:LC) (aP:LT) (aQ c0_7:LB):Nat->Int->Int->(LB)->OS S
 |0=>fun _ _ _=> .none
 |m+1=>fun bu v13 out5=>B5 k Y aL aM aN aO aP aQ c0_7 (u6 k Y aL aM aN aO aP aQ c0_7 m) bu v13 out5
def NN (k:Nat) (Y:LB×Int->OS S) (J0:Int->Int->(LB)->OS S) (bk aL aM:Int) (aN:BA) (aO:LC) (aP:LT) (aQ c0_7:LB):OS S:=J0 bk 0 ([]:LB)
def tX (k:Nat) (bk aL aM:Int) (aN:BA) (aO:LC) (aP:LT) (aQ c0_7:LB) (Y:LB×Int->OS S):OS S:=NN k Y (fun bu v13 out5=>u6 k Y aL aM aN aO aP aQ c0_7 k bu v13 out5) bk aL aM aN aO aP aQ c0_7
def DS (k:Nat) (bk aL aM:Int) (aN:BA) (aO:LC) (aP:LT) (aQ c0_7:LB) (Y:Int×Int×BA×LT×LB×Int->OS S):OS S:=ab k (tX k bk aL aM aN aO aP aQ c0_7) fun r1=>ab k (gi k 16 r1.1 [(Tm.mk aL aM aN aO aP aQ)]) fun r2=>Y (r2.1,r2.2.1,r2.2.2.1,r2.2.2.2.1,r2.2.2.2.2,r1.2)
def DL (k:Nat) (a_x:(Br Tm)) (c1:LB) (c2:Int) (Y:(Br Tm)×Int->OS S):OS S:=ab k (fJ k 3 ([]:LT)) fun r1=>ab k (rk k (Tm.mk r1.1 r1.2.1 r1.2.2.1 [] r1.2.2.2 []) c1) fun r2=>ab k (gU k (Tm.mk r2.1 r2.2.1 r2.2.2.1 [] r2.2.2.2.1 r2.2.2.2.2) 0 1 c2) fun r3=>ag (ai a_x.kids 0) fun x4=>ab k (gh k a_x.face [(Tm.mk r3.1.kind r3.1.n r3.1.name r3.1.r [(ae x4)] r3.1.sys)]) fun r5=>Y (r5,r3.2)
def B1 (k:Nat) (Y:LB×Int->OS S) (c1 l:LB) (rec0:Int->Int->(LB)->OS S) (jP v10:Int) (out5:LB):OS S:=ac (decide ((v10:Int)<(l.length:Int))) (ag (ai l v10) fun x1=>ab k (DL k x1 c1 jP) fun r2=>ag (aS 1099511627776 out5.length [r2.1].length) fun x3=>rec0 r2.2 (af .i64 (v10+1)) (out5++[r2.1])) (Y (out5,jP))
def uY (k:Nat) (Y:LB×Int->OS S) (c1 l:LB):Nat->Int->Int->(LB)->OS S
 |0=>fun _ _ _=> .none
 |m+1=>fun jP v10 out5=>B1 k Y c1 l (uY k Y c1 l m) jP v10 out5
def Y2 (k:Nat) (Y:LB×Int->OS S) (J0:Int->Int->(LB)->OS S) (l c1:LB) (c2:Int):OS S:=J0 c2 0 ([]:LB)
def PC (k:Nat) (l c1:LB) (c2:Int) (Y:LB×Int->OS S):OS S:=Y2 k Y (fun jP v10 out5=>uY k Y c1 l k jP v10 out5) l c1 c2
def DM (k:Nat) (a_x:(Br Tm)) (c1 c2:Tm) (c3:Int) (Y:(Br Tm)×Int->OS S):OS S:=ag (ai a_x.kids 1) fun x1=>ab k (gU k (ae x1) 0 1 c3) fun r2=>ab k (Jm k (ae r2.1)) fun r3=>ag (ai a_x.kids 0) fun x4=>ab k (yD k (ae x4) (ae c1) c2.sys r2.2) fun r5=>ab k (fJ k 6 [(Tm.mk r3.1 r3.2.1 r3.2.2.1 [] r3.2.2.2 []),(ae r5.1)]) fun r6=>ab k (gh k a_x.face [(Tm.mk r6.1 r6.2.1 r6.2.2.1 [] r6.2.2.2 [])]) fun r7=>Y (r7,r5.2)
def B0 (k:Nat) (Y:LB×Int->OS S) (c1 c2:Tm) (l:LB) (rec0:Int->Int->(LB)->OS S) (jQ v10:Int) (out5:LB):OS S:=ac (decide ((v10:Int)<(l.length:Int))) (ag (ai l v10) fun x1=>ab k (DM k x1 (ae c1) (ae c2) jQ) fun r2=>ag (aS 1099511627776 out5.length [r2.1].length) fun x3=>rec0 r2.2 (af .i64 (v10+1)) (out5++[r2.1])) (Y (out5,jQ))
def uX (k:Nat) (Y:LB×Int->OS S) (c1 c2:Tm) (l:LB):Nat->Int->Int->(LB)->OS S
 |0=>fun _ _ _=> .none
 |m+1=>fun jQ v10 out5=>B0 k Y c1 c2 l (uX k Y c1 c2 l m) jQ v10 out5
def Y1 (k:Nat) (Y:LB×Int->OS S) (J0:Int->Int->(LB)->OS S) (l:LB) (c1 c2:Tm) (c3:Int):OS S:=J0 c3 0 ([]:LB)
def Jk (k:Nat) (l:LB) (c1 c2:Tm) (c3:Int) (Y:LB×Int->OS S):OS S:=Y1 k Y (fun jQ v10 out5=>uX k Y c1 c2 l k jQ v10 out5) l c1 c2 c3
def Jj (k:Nat) (a_x:(Br Tm)) (c0 c1:Tm) (Y:(Br Tm)->OS S):OS S:=ag (ai a_x.kids 0) fun x1=>ab k (gi k 15 c0.sys [(ae x1),(ae c1)]) fun r2=>ab k (gh k a_x.face [(Tm.mk r2.1 r2.2.1 r2.2.2.1 [] r2.2.2.2.1 r2.2.2.2.2)]) fun r3=>Y r3
def BZ (k:Nat) (Y:LB->OS S) (c0 c1:Tm) (l:LB) (rec0:Int->(LB)->OS S) (v10:Int) (out5:LB):OS S:=ac (decide ((v10:Int)<(l.length:Int))) (ag (ai l v10) fun x1=>ab k (Jj k x1 (ae c0) (ae c1)) fun r2=>ag (aS 1099511627776 out5.length [r2].length) fun x3=>rec0 (af .i64 (v10+1)) (out5++[r2])) (Y out5)
def uW (k:Nat) (Y:LB->OS S) (c0 c1:Tm) (l:LB):Nat->Int->(LB)->OS S
 |0=>fun _ _=> .none
 |m+1=>fun v10 out5=>BZ k Y c0 c1 l (uW k Y c0 c1 l m) v10 out5
def NJ (k:Nat) (Y:LB->OS S) (J0:Int->(LB)->OS S) (l:LB) (c0 c1:Tm):OS S:=J0 0 ([]:LB)
def yz (k:Nat) (l:LB) (c0 c1:Tm) (Y:LB->OS S):OS S:=NJ k Y (fun v10 out5=>uW k Y c0 c1 l k v10 out5) l c0 c1
def DK (k:Nat) (t:Tm) (Y:Tm×Bool×Int->OS S):OS S:=ab k (ji k (ae t)) fun r1=>ac (!(r1==0)) (Y ((Tm.mk 0 0 au [] [] []),false,r1)) (ac (!(t.kind==15)) (Y ((Tm.mk 0 0 au [] [] []),false,0)) (ag (ai t.kids 0) fun x2=>ac (!(x2.kind==16)) (Y ((Tm.mk 0 0 au [] [] []),false,0)) (fc k (ae t) fun r3=>ag (ai r3.kids 0) fun x4=>ag (ai r3.kids 1) fun x5=>ag (ai r3.kids 0) fun x6=>ab k (DN k (ae x6)) fun r7=>ab k (PC k r3.sys r7 0) fun r8=>ab k (Jk k x4.sys (ae x5) (ae r3) r8.2) fun r9=>ag (aS 1099511627776 r8.1.length r9.1.length) fun x10=>ag (ai x4.kids 0) fun x11=>ab k (rk k (ae x5) r7) fun r12=>ab k (gi k 15 (r8.1++r9.1) [(ae x11),(Tm.mk r12.1 r12.2.1 r12.2.2.1 [] r12.2.2.2.1 r12.2.2.2.2)]) fun r13=>ab k (yz k x4.sys (ae r3) (ae x5)) fun r14=>ab k (gi k 17 r14 [(Tm.mk r13.1 r13.2.1 r13.2.2.1 [] r13.2.2.2.1 r13.2.2.2.2)]) fun r15=>ab k (jg k (Tm.mk r15.1 r15.2.1 r15.2.2.1 [] r15.2.2.2.1 r15.2.2.2.2) r9.2) fun r16=>Y ((ae r16.1),r16.2.1,r16.2.2.1))))
def o_ (k:Nat) (t:Tm) (Y:Tm×Bool×Int->OS S):OS S:=ab k (ji k (ae t)) fun r1=>ac (!(r1==0)) (Y ((Tm.mk 0 0 au [] [] []),false,r1)) (ac (!(t.kind==15)) (Y ((Tm.mk 0 0 au [] [] []),false,0)) (fc k (ae t) fun r2=>ag (ai r2.kids 1) fun x3=>ag (ai r2.kids 0) fun x4=>ac (x4.kind==4) (ab k (DQ k (ae x4) 0 x3.kind x3.n x3.name x3.r x3.kids x3.sys r2.sys) fun r5=>ab k (jg k (Tm.mk r5.1 r5.2.1 r5.2.2.1 [] r5.2.2.2.1 []) r5.2.2.2.2) fun r6=>Y ((ae r6.1),r6.2.1,r6.2.2.1)) (ac (x4.kind==7) (ab k (DR k (ae x4) 0 x3.kind x3.n x3.name x3.r x3.kids x3.sys r2.sys) fun r7=>ab k (jg k (Tm.mk r7.1 r7.2.1 r7.2.2.1 [] r7.2.2.2.1 []) r7.2.2.2.2) fun r8=>Y ((ae r8.1),r8.2.1,r8.2.2.1)) (ac (x4.kind==11) (ab k (DO k (ae x4) 0 x3.kind x3.n x3.name x3.r x3.kids x3.sys r2.sys) fun r9=>ab k (jg k (Tm.mk r9.1 r9.2.1 r9.2.2.1 [] r9.2.2.2.1 []) r9.2.2.2.2) fun r10=>Y ((ae r10.1),r10.2.1,r10.2.2.1)) (ac (x4.kind==3) (ab k (DS k 0 x3.kind x3.n x3.name x3.r x3.kids x3.sys r2.sys) fun r11=>ab k (jg k (Tm.mk r11.1 r11.2.1 r11.2.2.1 [] r11.2.2.2.1 r11.2.2.2.2.1) r11.2.2.2.2.2) fun r12=>Y ((ae r12.1),r12.2.1,r12.2.2.1)) (ac (x4.kind==16) (ab k (DK k (ae r2)) fun r13=>Y ((ae r13.1),r13.2.1,r13.2.2)) (Y ((Tm.mk 0 0 au [] [] []),false,0))))))))
def yB (k:Nat) (Y:Bool->OS S):OS S:=ab k (jM k 19 ([]:LT)) fun r1=>ab k (jM k 1 ([]:LT)) fun r2=>ab k (jM k 4 [(Tm.mk r1.1 r1.2.1 r1.2.2.1 [] r1.2.2.2 []),(Tm.mk r1.1 r1.2.1 r1.2.2.1 [] r1.2.2.2 [])]) fun r3=>ab k (jM k 15 [(Tm.mk r3.1 r3.2.1 r3.2.2.1 [] r3.2.2.2 []),(Tm.mk r2.1 r2.2.1 r2.2.2.1 [] r2.2.2.2 [])]) fun r4=>ab k (o_ k (Tm.mk r4.1 r4.2.1 r4.2.2.1 [] r4.2.2.2 [])) fun r5=>ab k (jM k 3 ([]:LT)) fun r6=>ab k (jM k 15 [(Tm.mk r6.1 r6.2.1 r6.2.2.1 [] r6.2.2.2 []),(Tm.mk r1.1 r1.2.1 r1.2.2.1 [] r1.2.2.2 [])]) fun r7=>ab k (o_ k (Tm.mk r7.1 r7.2.1 r7.2.2.1 [] r7.2.2.2 [])) fun r8=>ab k (jM k 20 ([]:LT)) fun r9=>ab k (jM k 15 [(Tm.mk r1.1 r1.2.1 r1.2.2.1 [] r1.2.2.2 []),(Tm.mk r9.1 r9.2.1 r9.2.2.1 [] r9.2.2.2 [])]) fun r10=>ab k (o_ k (Tm.mk r10.1 r10.2.1 r10.2.2.1 [] r10.2.2.2 [])) fun r11=>ac (r5.2.1) (ac (r5.2.2==0) (ab k (jM k 6 [(Tm.mk 1 1 au [] [] []),(Tm.mk r2.1 r2.2.1 r2.2.2.1 [] r2.2.2.2 [])]) fun r12=>ab k (jM k 15 [(Tm.mk r1.1 r1.2.1 r1.2.2.1 [] r1.2.2.2 []),(Tm.mk r12.1 r12.2.1 r12.2.2.1 [] r12.2.2.2 [])]) fun r13=>ab k (jM k 5 [(Tm.mk r13.1 r13.2.1 r13.2.2.1 [] r13.2.2.2 [])]) fun r14=>gG k (ae r5.1) (Tm.mk r14.1 r14.2.1 r14.2.2.1 [] r14.2.2.2 []) fun r15=>ac (r15) (ac (r8.2.1) (ac (r8.2.2==0) (ab k (jM k 16 [(Tm.mk r1.1 r1.2.1 r1.2.2.1 [] r1.2.2.2 [])]) fun r16=>gG k (ae r8.1) (Tm.mk r16.1 r16.2.1 r16.2.2.1 [] r16.2.2.2 []) fun r17=>ac (r17) (ac (!r11.2.1) (Y (r11.2.2==0)) (Y false)) (Y false)) (Y false)) (Y false)) (Y false)) (Y false)) (Y false)
def cY (k:Nat) (t:Tm) (vars dims:Int) (Y:Tm->OS S):OS S:=ac (decide ((t.kind:Int)<0)) (Y (ae t)) (dI k (ae t) 0 vars 0 0 fun r1=>ac (decide ((r1.kind:Int)<0)) (Y (ae r1)) (dI k (ae r1) 0 0 0 dims fun r2=>Y (ae r2)))
def gV (k:Nat) (a_n:Int) (Y:Int×Int×BA->OS S):OS S:=Y (1,a_n,au)
def CO (k:Nat) (Y:Tm->OS S) (kind:Int) (kids:LT) (rec0:Int->OS S) (i5:Int):OS S:=ac (decide ((i5:Int)<(kids.length:Int))) (ag (ai kids i5) fun x1=>ac (decide ((x1.kind:Int)<0)) (ag (ai kids i5) fun x2=>Y (ae x2)) (rec0 (af .i64 (i5+1)))) (Y (Tm.mk kind 0 au [] kids []))
def vA (k:Nat) (Y:Tm->OS S) (kind:Int) (kids:LT):Nat->Int->OS S
 |0=>fun _=> .none
 |m+1=>fun i5=>CO k Y kind kids (vA k Y kind kids m) i5
def Bp (k:Nat) (Y:Tm->OS S) (J0:Int->OS S) (kind:Int) (kids:LT):OS S:=J0 0
def rq (k:Nat) (kind:Int) (kids:LT) (Y:Tm->OS S):OS S:=Bp k Y (fun i5=>vA k Y kind kids k i5) kind kids
def cG (k:Nat) (kind:Int) (a b:Tm) (Y:Tm->OS S):OS S:=ab k (rq k kind [(ae a),(ae b)]) fun r1=>Y (ae r1)
def eU (k:Nat) (t:Tm) (f:LC) (kid:Tm) (Y:Tm->OS S):OS S:=ac (decide ((t.kind:Int)<0)) (Y (ae t)) (ac (decide ((kid.kind:Int)<0)) (Y (ae kid)) (ag (aS 1099511627776 ([]:LB).length t.sys.length) fun x1=>ag (aS 1099511627776 (([]:LB)++t.sys).length [(Br.mk f [(ae kid)])].length) fun x2=>Y (Tm.mk t.kind t.n t.name t.r t.kids ((([]:LB)++t.sys)++[(Br.mk f [(ae kid)])]))))
def ee (k:Nat) (kind:Int) (a:Tm) (Y:Tm->OS S):OS S:=ab k (rq k kind [(ae a)]) fun r1=>Y (ae r1)
def tD (k:Nat) (Y:Tm->OS S) (sys:LB) (rec0:Tm->Int->OS S) (b7:Tm) (i8:Int):OS S:=ac (decide ((i8:Int)<(sys.length:Int))) (ac (decide ((b7.kind:Int)>=0)) (ag (ai sys i8) fun x6=>ag (ai sys i8) fun x7=>ag (ai x7.kids 0) fun x8=>ab k (cY k (ae x8) 1 0) fun r9=>ab k (gV k 0) fun r10=>ab k (cG k 6 (ae r9) (Tm.mk r10.1 r10.2.1 r10.2.2 [] [] [])) fun r11=>ab k (eU k (ae b7) x6.face (ae r11)) fun r12=>rec0 (ae r12) (af .i64 (i8+1))) (ab k (ee k 5 (ae b7)) fun r13=>Y (ae r13))) (ab k (ee k 5 (ae b7)) fun r14=>Y (ae r14))
def oq (k:Nat) (Y:Tm->OS S) (sys:LB):Nat->Tm->Int->OS S
 |0=>fun _ _=> .none
 |m+1=>fun b7 i8=>tD k Y sys (oq k Y sys m) b7 i8
def OC (k:Nat) (Y:Tm->OS S) (J0:Tm->Int->OS S) (a_k a:Tm) (sys:LB):OS S:=ag (ai a_k.kids 1) fun x1=>ab k (cY k (ae a) 1 0) fun r2=>ab k (gV k 0) fun r3=>ab k (cG k 6 (ae r2) (Tm.mk r3.1 r3.2.1 r3.2.2 [] [] [])) fun r4=>ab k (cG k 15 (ae x1) (ae r4)) fun r5=>J0 (ae r5) 0
def EF (k:Nat) (a_k a:Tm) (sys:LB) (Y:Tm->OS S):OS S:=OC k Y (fun b7 i8=>oq k Y sys k b7 i8) a_k a sys
def CT (k:Nat) (Y:LB->OS S) (kind:Int) (sys:LB) (rec0:(LB)->Int->OS S) (out5:LB) (i6:Int):OS S:=ac (decide ((i6:Int)<(sys.length:Int))) (ag (ai sys i6) fun x1=>ag (ai sys i6) fun x2=>ag (ai x2.kids 0) fun x3=>ab k (ee k kind (ae x3)) fun r4=>ag (aS 1099511627776 out5.length [(Br.mk x1.face [(ae r4)])].length) fun x5=>rec0 (out5++[(Br.mk x1.face [(ae r4)])]) (af .i64 (i6+1))) (Y out5)
def vD (k:Nat) (Y:LB->OS S) (kind:Int) (sys:LB):Nat->(LB)->Int->OS S
 |0=>fun _ _=> .none
 |m+1=>fun out5 i6=>CT k Y kind sys (vD k Y kind sys m) out5 i6
def OD (k:Nat) (Y:LB->OS S) (J0:(LB)->Int->OS S) (kind:Int) (sys:LB):OS S:=J0 ([]:LB) 0
def y_ (k:Nat) (kind:Int) (sys:LB) (Y:LB->OS S):OS S:=OD k Y (fun out5 i6=>vD k Y kind sys k out5 i6) kind sys
def IN (k:Nat) (Y:Tm->OS S) (kind:Int) (l:LB) (rec0:(LT)->Int->OS S) (b5_4:LT) (i6:Int):OS S:=ab k (ue k kind) fun r1=>ac (decide ((i6:Int)<r1)) (ag (aS 1099511627776 b5_4.length [(Tm.mk 3 0 au [] [] [])].length) fun x2=>rec0 (b5_4++[(Tm.mk 3 0 au [] [] [])]) (af .i64 (i6+1))) (Y (Tm.mk kind 0 au [] b5_4 l))
def vz (k:Nat) (Y:Tm->OS S) (kind:Int) (l:LB):Nat->(LT)->Int->OS S
 |0=>fun _ _=> .none
 |m+1=>fun b5_4 i6=>IN k Y kind l (vz k Y kind l m) b5_4 i6
def Ov (k:Nat) (Y:Tm->OS S) (J0:(LT)->Int->OS S) (kind:Int) (l:LB):OS S:=J0 ([]:LT) 0
def yV (k:Nat) (kind:Int) (l:LB) (Y:Tm->OS S):OS S:=Ov k Y (fun b5_4 i6=>vz k Y kind l k b5_4 i6) kind l
def CQ (k:Nat) (Y:Int->OS S) (l:LT) (rec0:Int->OS S) (i3:Int):OS S:=ac (decide ((i3:Int)<(l.length:Int))) (ag (ai l i3) fun x1=>ab k (pk k (ae x1)) fun r2=>ac (!(r2==0)) (Y r2) (rec0 (af .i64 (i3+1)))) (Y 0)
def vB (k:Nat) (Y:Int->OS S) (l:LT):Nat->Int->OS S
 |0=>fun _=> .none
 |m+1=>fun i3=>CQ k Y l (vB k Y l m) i3
def Oz (k:Nat) (Y:Int->OS S) (J0:Int->OS S) (l:LT):OS S:=J0 0
def rx (k:Nat) (l:LT) (Y:Int->OS S):OS S:=Oz k Y (fun i3=>vB k Y l k i3) l
def rp (k:Nat) (line:Tm) (a_r:LC) (Y:Tm->OS S):OS S:=ac (decide ((line.kind:Int)<0)) (Y (ae line)) (ab k (yP k (ae line) 1 2) fun r1=>ac (!(r1.2==0)) (ab k (e_ k r1.2) fun r2=>Y (Tm.mk r2.1 r2.2.1 r2.2.2 [] [] [])) (ab k (rn k (ae r1.1) 0 a_r) fun r3=>Y (ae r3)))
def tA (k:Nat) (Y:Tm->OS S) (a:Tm) (sys:LB) (rec0:Tm->Int->OS S) (b7:Tm) (i8:Int):OS S:=ac (decide ((i8:Int)<(sys.length:Int))) (ac (decide ((b7.kind:Int)>=0)) (ag (ai sys i8) fun x4=>ab k (nC k x4.face 0 1) fun r5=>ac (!(r5.2==0)) (ab k (e_ k r5.2) fun r6=>Y (Tm.mk r6.1 r6.2.1 r6.2.2 [] [] [])) (ag (ai sys i8) fun x7=>ag (ai x7.kids 0) fun x8=>ab k (rp k (ae x8) [(Cl.mk 3 0)]) fun r9=>ab k (eU k (ae b7) r5.1 (ae r9)) fun r10=>rec0 (ae r10) (af .i64 (i8+1)))) (ab k (cY k (ae a) 0 2) fun r11=>ab k (eU k (ae b7) [(Cl.mk 0 1)] (ae r11)) fun r12=>Y (ae r12))) (ab k (cY k (ae a) 0 2) fun r13=>ab k (eU k (ae b7) [(Cl.mk 0 1)] (ae r13)) fun r14=>Y (ae r14))
def ol (k:Nat) (Y:Tm->OS S) (a:Tm) (sys:LB):Nat->Tm->Int->OS S
 |0=>fun _ _=> .none
 |m+1=>fun b7 i8=>tA k Y a sys (ol k Y a sys m) b7 i8
def Ox (k:Nat) (Y:Tm->OS S) (J0:Tm->Int->OS S) (t a:Tm) (sys:LB):OS S:=ab k (cY k (ae t) 0 1) fun r1=>ab k (cY k (ae a) 0 1) fun r2=>ab k (cG k 15 (ae r1) (ae r2)) fun r3=>J0 (ae r3) 0
def y7 (k:Nat) (t a:Tm) (sys:LB) (Y:Tm->OS S):OS S:=Ox k Y (fun b7 i8=>ol k Y a sys k b7 i8) t a sys
def pn (k:Nat) (t:Tm) (Y:Tm×Int->OS S):OS S:=ac (decide ((t.kind:Int)<0)) (Y ((Tm.mk 0 0 au [] [] []),af .i64 (0-t.kind))) (ab k (pk k (ae t)) fun r1=>ac (!(r1==0)) (Y ((Tm.mk 0 0 au [] [] []),r1)) (Y ((ae t),0)))
def y6 (k:Nat) (t a:Tm) (sys:LB) (Y:Tm×Int->OS S):OS S:=ab k (yV k 15 sys) fun r1=>ab k (rx k [(ae t),(ae a),(ae r1)]) fun r2=>ac (!(r2==0)) (Y ((Tm.mk 0 0 au [] [] []),r2)) (ab k (y7 k (ae t) (ae a) sys) fun r3=>ab k (pn k (ae r3)) fun r4=>Y ((ae r4.1),r4.2))
def uh (k:Nat) (t:Tm) (a_e:Int) (Y:Tm->OS S):OS S:=ac (!(a_e==0)) (ab k (e_ k a_e) fun r1=>Y (Tm.mk r1.1 r1.2.1 r1.2.2 [] [] [])) (Y (ae t))
def Jt (k:Nat) (t:Tm) (dims:Int) (Y:Tm->OS S):OS S:=ac (decide ((t.kind:Int)<0)) (Y (ae t)) (ab k (cY k (ae t) 0 dims) fun r1=>Y (ae r1))
abbrev jF (S:Type):=Tm->Int->(Int->OS S)->OS S
def CK (hd:jF S) (k:Nat) (Y:Int->OS S) (t:Tm) (a_n i9:Int) (rec2:Int->Int->OS S) (rec3:Int->Int->OS S) (v10 sum5''':Int):OS S:=ag (ai t.sys i9) fun x4=>ac (decide ((v10:Int)<(x4.kids.length:Int))) (ag (ai t.sys i9) fun x5=>ag (ai x5.kids v10) fun x6=>hd (ae x6) a_n fun r7=>rec3 (af .i64 (v10+1)) (af .i64 (sum5'''+r7))) (rec2 sum5''' (af .i64 (i9+1)))
def sn (hd:jF S) (k:Nat) (Y:Int->OS S) (rec2:Int->Int->OS S) (t:Tm) (a_n i9:Int):Nat->Int->Int->OS S
 |0=>fun _ _=> .none
 |m+1=>fun v10 sum5'''=>CK hd k Y t a_n i9 rec2 (sn hd k Y rec2 t a_n i9 m) v10 sum5'''
def xQ (hd:jF S) (k:Nat) (Y:Int->OS S) (t:Tm) (a_n:Int) (J3:Int->Int->Int->OS S) (rec2:Int->Int->OS S) (sum5'' i9:Int):OS S:=ac (decide ((i9:Int)<(t.sys.length:Int))) (J3 i9 0 sum5'') (Y sum5'')
def oh (hd:jF S) (k:Nat) (Y:Int->OS S) (t:Tm) (a_n:Int):Nat->Int->Int->OS S
 |0=>fun _ _=> .none
 |m+1=>fun sum5'' i9=>xQ hd k Y t a_n (fun i9 v10 sum5'''=>sn hd k Y (oh hd k Y t a_n m) t a_n i9 k v10 sum5''') (oh hd k Y t a_n m) sum5'' i9
def xP (hd:jF S) (k:Nat) (Y:Int->OS S) (t:Tm) (a_n:Int) (J2:Int->Int->OS S) (rec1:Int->Int->OS S) (sum5' i6:Int):OS S:=ac (decide ((i6:Int)<(t.kids.length:Int))) (ab k (pj k t.kind i6) fun r1=>ag (ai t.kids i6) fun x2=>hd (ae x2) (af .i64 (a_n+r1.1)) fun r3=>rec1 (af .i64 (sum5'+r3)) (af .i64 (i6+1))) (J2 sum5' 0)
def sk (hd:jF S) (k:Nat) (Y:Int->OS S) (t:Tm) (a_n:Int):Nat->Int->Int->OS S
 |0=>fun _ _=> .none
 |m+1=>fun sum5' i6=>xP hd k Y t a_n (fun sum5'' i9=>oh hd k Y t a_n k sum5'' i9) (sk hd k Y t a_n m) sum5' i6
def CJ (hd:jF S) (k:Nat) (Y:Int->OS S) (t:Tm) (a_n:Int) (J1:Int->Int->OS S) (sum5:Int):OS S:=J1 sum5 0
def FD (hd:jF S) (k:Nat) (Y:Int->OS S) (t:Tm) (a_n:Int):Nat->Int->OS S
 |0=>fun _=> .none
 |_+1=>fun sum5=>CJ hd k Y t a_n (fun sum5' i6=>sk hd k Y t a_n k sum5' i6) sum5
def Oq (hd:jF S) (k:Nat) (Y:Int->OS S) (J0:Int->OS S) (t:Tm) (a_n:Int):OS S:=ac (t.kind==1) (ac (t.n==a_n) (J0 1) (J0 0)) (J0 0)
def lr:Nat->Tm->Int->(Int->OS S)->OS S
 |0=>fun _ _ _=> .none
 |k+1=>fun t a_n Y=>Oq (lr k) k Y (fun sum5=>FD (lr k) k Y t a_n k sum5) t a_n
def IL (k:Nat) (Y:Tm×Int->OS S) (t:Tm) (a_from a_by:Int) (v8:Int):OS S:=ac (!(v8==0)) (Y ((Tm.mk 0 0 au [] [] []),v8)) (ac (decide ((a_from:Int)>2000000000)) (dI k (ae t) 2000000000 a_by 0 0 fun r2=>ab k (nE k (ae r2)) fun r3=>Y ((ae r3.1),r3.2)) (dI k (ae t) a_from a_by 0 0 fun r4=>ab k (nE k (ae r4)) fun r5=>Y ((ae r5.1),r5.2)))
def KN (k:Nat) (Y:Tm×Int->OS S) (t:Tm) (a_from a_by:Int):Nat->Int->OS S
 |0=>fun _=> .none
 |_+1=>fun v8=>IL k Y t a_from a_by v8
def On (k:Nat) (Y:Tm×Int->OS S) (J0:Int->OS S) (t:Tm) (a_from a_by:Int):OS S:=ab k (yR k (ae t) a_from a_by) fun r1=>ac (r1==0) (ac (decide ((a_by:Int)>1000000)) (J0 2) (J0 r1)) (J0 r1)
def Es (k:Nat) (t:Tm) (a_from a_by:Int) (Y:Tm×Int->OS S):OS S:=On k Y (fun v8=>KN k Y t a_from a_by k v8) t a_from a_by
def IK (k:Nat) (Y:Tm×Int->OS S) (t:Tm) (r1:Tm×Int) (dims:Int) (v9:Int):OS S:=ac (!(v9==0)) (ac (decide ((dims:Int)<0)) (ac (v9==100) (ab k (pk k (ae t)) fun r2=>ac (r2==0) (Y ((Tm.mk 0 0 au [] [] []),2)) (Y ((Tm.mk 0 0 au [] [] []),v9))) (Y ((Tm.mk 0 0 au [] [] []),v9))) (Y ((Tm.mk 0 0 au [] [] []),v9))) (dI k (ae r1.1) 0 0 0 dims fun r3=>ab k (nE k (ae r3)) fun r4=>Y ((ae r4.1),r4.2))
def KM (k:Nat) (Y:Tm×Int->OS S) (t:Tm) (r1:Tm×Int) (dims:Int):Nat->Int->OS S
 |0=>fun _=> .none
 |_+1=>fun v9=>IK k Y t r1 dims v9
def Om (k:Nat) (Y:Tm×Int->OS S) (J0:(Tm×Int)->Int->OS S) (t:Tm) (vars dims:Int):OS S:=ab k (Es k (ae t) 0 vars) fun r1=>ac (r1.2==0) (ac (decide ((dims:Int)<0)) (J0 r1 2) (J0 r1 r1.2)) (J0 r1 r1.2)
def Er (k:Nat) (t:Tm) (vars dims:Int) (Y:Tm×Int->OS S):OS S:=Om k Y (fun r1 v9=>KM k Y t r1 dims k v9) t vars dims
abbrev iE (S:Type):=Tm->Int->Tm->Int->Int->(Tm->OS S)->OS S
def CL (hd:iE S) (k:Nat) (Y:Tm->OS S) (t:Tm) (bL:Int) (b13_4:LT) (b13_5:LB) (x7:(Br Tm)) (u:Tm) (a_n i18 vars dims:Int) (rec3:(LB)->Int->OS S) (rec4:(LT)->Int->OS S) (b19_1:LT) (m20:Int):OS S:=ag (ai t.sys i18) fun x8=>ac (decide ((m20:Int)<(x8.kids.length:Int))) (ag (ai t.sys i18) fun x9=>ag (ai x9.kids m20) fun x10=>ab k (pm k t.kind) fun r11=>hd (ae x10) a_n (ae u) vars (af .i64 (dims+r11)) fun r12=>ac (decide ((r12.kind:Int)<0)) (Y (ae r12)) (ag (aS 1099511627776 b19_1.length [(ae r12)].length) fun x13=>rec4 (b19_1++[(ae r12)]) (af .i64 (m20+1)))) (ag (aS 1099511627776 b13_5.length [(Br.mk x7.face b19_1)].length) fun x14=>rec3 (b13_5++[(Br.mk x7.face b19_1)]) (af .i64 (i18+1)))
def pX (hd:iE S) (k:Nat) (Y:Tm->OS S) (rec3:(LB)->Int->OS S) (t:Tm) (bL:Int) (b13_4:LT) (b13_5:LB) (x7:(Br Tm)) (u:Tm) (a_n i18 vars dims:Int):Nat->(LT)->Int->OS S
 |0=>fun _ _=> .none
 |m+1=>fun b19_1 m20=>CL hd k Y t bL b13_4 b13_5 x7 u a_n i18 vars dims rec3 (pX hd k Y rec3 t bL b13_4 b13_5 x7 u a_n i18 vars dims m) b19_1 m20
def xS (hd:iE S) (k:Nat) (Y:Tm->OS S) (t:Tm) (bL:Int) (b13_4:LT) (u:Tm) (a_n vars dims:Int) (J4:(LB)->(Br Tm)->Int->(LT)->Int->OS S) (rec3:(LB)->Int->OS S) (b13_5:LB) (i18:Int):OS S:=ac (decide ((i18:Int)<(t.sys.length:Int))) (ag (ai t.sys i18) fun x7=>J4 b13_5 x7 i18 ([]:LT) 0) (Y (Tm.mk t.kind bL t.name t.r b13_4 b13_5))
def oi (hd:iE S) (k:Nat) (Y:Tm->OS S) (t:Tm) (bL:Int) (b13_4:LT) (u:Tm) (a_n vars dims:Int):Nat->(LB)->Int->OS S
 |0=>fun _ _=> .none
 |m+1=>fun b13_5 i18=>xS hd k Y t bL b13_4 u a_n vars dims (fun b13_5 x7 i18 b19_1 m20=>pX hd k Y (oi hd k Y t bL b13_4 u a_n vars dims m) t bL b13_4 b13_5 x7 u a_n i18 vars dims k b19_1 m20) (oi hd k Y t bL b13_4 u a_n vars dims m) b13_5 i18
def xR (hd:iE S) (k:Nat) (Y:Tm->OS S) (t:Tm) (bL:Int) (u:Tm) (a_n vars dims:Int) (J3:(LT)->(LB)->Int->OS S) (rec2:(LT)->Int->OS S) (b13_4:LT) (i14:Int):OS S:=ac (decide ((i14:Int)<(t.kids.length:Int))) (ab k (pj k t.kind i14) fun r3=>ag (ai t.kids i14) fun x4=>hd (ae x4) a_n (ae u) (af .i64 (vars+r3.1)) (af .i64 (dims+r3.2)) fun r5=>ac (decide ((r5.kind:Int)<0)) (Y (ae r5)) (ag (aS 1099511627776 b13_4.length [(ae r5)].length) fun x6=>rec2 (b13_4++[(ae r5)]) (af .i64 (i14+1)))) (J3 b13_4 ([]:LB) 0)
def pW (hd:iE S) (k:Nat) (Y:Tm->OS S) (t:Tm) (bL:Int) (u:Tm) (a_n vars dims:Int):Nat->(LT)->Int->OS S
 |0=>fun _ _=> .none
 |m+1=>fun b13_4 i14=>xR hd k Y t bL u a_n vars dims (fun b13_4 b13_5 i18=>oi hd k Y t bL b13_4 u a_n vars dims k b13_5 i18) (pW hd k Y t bL u a_n vars dims m) b13_4 i14
def IM (hd:iE S) (k:Nat) (Y:Tm->OS S) (t u:Tm) (a_n vars dims:Int) (J2:Int->(LT)->Int->OS S) (bL:Int):OS S:=J2 bL ([]:LT) 0
def vv (hd:iE S) (k:Nat) (Y:Tm->OS S) (t u:Tm) (a_n vars dims:Int):Nat->Int->OS S
 |0=>fun _=> .none
 |_+1=>fun bL=>IM hd k Y t u a_n vars dims (fun bL b13_4 i14=>pW hd k Y t bL u a_n vars dims k b13_4 i14) bL
def tx (hd:iE S) (k:Nat) (Y:Tm->OS S) (t u:Tm) (a_n vars dims:Int) (J1:Int->OS S):OS S:=ac (t.kind==1) (ac (decide ((t.n:Int)>(af .i64 (a_n+vars)))) (J1 (af .i64 (t.n-1))) (J1 t.n)) (J1 t.n)
def zN (hd:iE S) (k:Nat) (Y:Tm->OS S) (t u:Tm) (a_n vars dims:Int):Nat->OS S
 |0=> .none
 |_+1=>tx hd k Y t u a_n vars dims (fun bL=>vv hd k Y t u a_n vars dims k bL)
def G_ (hd:iE S) (k:Nat) (Y:Tm->OS S) (J0:OS S) (t:Tm) (a_n:Int) (u:Tm) (vars dims:Int):OS S:=ac (t.kind==1) (ac (t.n==(af .i64 (a_n+vars))) (ab k (Er k (ae u) vars dims) fun r1=>ac (!(r1.2==0)) (ab k (e_ k r1.2) fun r2=>Y (Tm.mk r2.1 r2.2.1 r2.2.2 [] [] [])) (Y (ae r1.1))) (J0)) (J0)
def gj:Nat->Tm->Int->Tm->Int->Int->(Tm->OS S)->OS S
 |0=>fun _ _ _ _ _ _=> .none
 |k+1=>fun t a_n u vars dims Y=>G_ (gj k) k Y (zN (gj k) k Y t u a_n vars dims k) t a_n u vars dims
def yS (k:Nat) (t:Tm) (a_n:Int) (u:Tm) (Y:Tm->OS S):OS S:=ac (decide ((t.kind:Int)<0)) (Y (ae t)) (ac (decide ((u.kind:Int)<0)) (Y (ae u)) (jN k (ae t) fun r1=>lr k (ae t) a_n fun r2=>jN k (ae u) fun r3=>ac (decide ((af .i64 (r1+(af .i64 (r2*(af .i64 (r3-1))))):Int)>20000)) (ab k (e_ k 221) fun r4=>Y (Tm.mk r4.1 r4.2.1 r4.2.2 [] [] [])) (gj k (ae t) a_n (ae u) 0 0 fun r5=>ac (decide ((r5.kind:Int)>=0)) (kz k (ae r5) fun r6=>ac (decide ((r6:Int)>200)) (ab k (e_ k 62) fun r7=>Y (Tm.mk r7.1 r7.2.1 r7.2.2 [] [] [])) (Y (ae r5))) (Y (ae r5)))))
def tz (k:Nat) (Y:Tm->OS S) (line:Tm) (sys:LB) (rec0:Tm->Int->OS S) (b7:Tm) (i8:Int):OS S:=ac (decide ((i8:Int)<(sys.length:Int))) (ac (decide ((b7.kind:Int)>=0)) (ab k (rp k (ae line) [(Cl.mk 1 0),(Cl.mk 2 0)]) fun r4=>ag (ai sys i8) fun x5=>ag (ai x5.kids 0) fun x6=>ab k (cG k 14 (ae r4) (ae x6)) fun r7=>ac (decide ((r7.kind:Int)>=0)) (ag (ai sys i8) fun x8=>ab k (eU k (ae b7) x8.face (Tm.mk r7.kind r7.n r7.name [(Cl.mk 1 0)] r7.kids r7.sys)) fun r9=>rec0 (ae r9) (af .i64 (i8+1))) (ag (ai sys i8) fun x10=>ab k (eU k (ae b7) x10.face (ae r7)) fun r11=>rec0 (ae r11) (af .i64 (i8+1)))) (Y (ae b7))) (Y (ae b7))
def mL (k:Nat) (Y:Tm->OS S) (line:Tm) (sys:LB):Nat->Tm->Int->OS S
 |0=>fun _ _=> .none
 |m+1=>fun b7 i8=>tz k Y line sys (mL k Y line sys m) b7 i8
def Ow (k:Nat) (Y:Tm->OS S) (J0:Tm->Int->OS S) (line a:Tm) (sys:LB):OS S:=ac (decide ((line.kind:Int)<0)) (Y (ae line)) (ab k (rn k (ae line) 0 [(Cl.mk 0 0)]) fun r1=>ab k (cG k 14 (ae line) (ae a)) fun r2=>ab k (cG k 15 (ae r1) (ae r2)) fun r3=>J0 (ae r3) 0)
def yW (k:Nat) (line a:Tm) (sys:LB) (Y:Tm->OS S):OS S:=Ow k Y (fun b7 i8=>mL k Y line sys k b7 i8) line a sys
def Et (k:Nat) (line a:Tm) (sys:LB) (Y:Tm×Int->OS S):OS S:=ab k (yV k 15 sys) fun r1=>ab k (rx k [(ae line),(ae a),(ae r1)]) fun r2=>ac (!(r2==0)) (Y ((Tm.mk 0 0 au [] [] []),r2)) (ab k (yW k (ae line) (ae a) sys) fun r3=>ab k (pn k (ae r3)) fun r4=>Y ((ae r4.1),r4.2))
def EE (k:Nat) (a_k a:Tm) (sys:LB) (Y:Tm->OS S):OS S:=ab k (y_ k 9 sys) fun r1=>ag (ai a_k.kids 0) fun x2=>ab k (ee k 9 (ae a)) fun r3=>ab k (y6 k (ae x2) (ae r3) r1) fun r4=>ab k (uh k (ae r4.1) r4.2) fun r5=>ac (decide ((r5.kind:Int)<0)) (Y (ae r5)) (ag (ai a_k.kids 1) fun x6=>ab k (Jt k (ae x6) 1) fun r7=>ab k (yS k (ae r7) 0 (ae r5)) fun r8=>ac (decide ((r8.kind:Int)<0)) (Y (ae r8)) (ag (ai a_k.kids 0) fun x9=>ab k (ee k 9 (ae a)) fun r10=>ab k (cG k 15 (ae x9) (ae r10)) fun r11=>ab k (ee k 10 (ae a)) fun r12=>ab k (y_ k 10 sys) fun r13=>ab k (Et k (ae r8) (ae r12) r13) fun r14=>ab k (uh k (ae r14.1) r14.2) fun r15=>ab k (cG k 8 (Tm.mk r11.kind r11.n r11.name r11.r r11.kids r1) (ae r15)) fun r16=>Y (ae r16)))
def nF (k:Nat) (kind:Int) (a b c:Tm) (Y:Tm->OS S):OS S:=ab k (rq k kind [(ae a),(ae b),(ae c)]) fun r1=>Y (ae r1)
def y8 (k:Nat) (p a b:Tm) (a_r:LC) (Y:Tm->OS S):OS S:=ab k (nF k 13 (ae p) (ae a) (ae b)) fun r1=>ac (decide ((r1.kind:Int)>=0)) (Y (Tm.mk r1.kind r1.n r1.name a_r r1.kids r1.sys)) (Y (ae r1))
def Ey (k:Nat) (t:Tm) (a_by:Int) (Y:Tm->OS S):OS S:=ac (decide ((t.kind:Int)<0)) (Y (ae t)) (ab k (yP k (ae t) 1 a_by) fun r1=>ac (!(r1.2==0)) (ab k (e_ k r1.2) fun r2=>Y (Tm.mk r2.1 r2.2.1 r2.2.2 [] [] [])) (Y (ae r1.1)))
def tF (k:Nat) (Y:Tm->OS S) (x1 x2:Tm) (sys:LB) (rec0:Tm->Int->OS S) (b9:Tm) (i10:Int):OS S:=ac (decide ((i10:Int)<(sys.length:Int))) (ac (decide ((b9.kind:Int)>=0)) (ag (ai sys i10) fun x9=>ab k (nC k x9.face 0 1) fun r10=>ac (!(r10.2==0)) (ab k (e_ k r10.2) fun r11=>Y (Tm.mk r11.1 r11.2.1 r11.2.2 [] [] [])) (ag (ai sys i10) fun x12=>ag (ai x12.kids 0) fun x13=>ab k (Ey k (ae x13) 1) fun r14=>ab k (cY k (ae x1) 0 2) fun r15=>ab k (cY k (ae x2) 0 2) fun r16=>ab k (y8 k (ae r14) (ae r15) (ae r16) [(Cl.mk 2 0)]) fun r17=>ab k (eU k (ae b9) r10.1 (ae r17)) fun r18=>rec0 (ae r18) (af .i64 (i10+1)))) (ac (decide ((b9.kind:Int)<0)) (Y (ae b9)) (ab k (cY k (ae x1) 0 2) fun r19=>ab k (eU k (ae b9) [(Cl.mk 0 1)] (ae r19)) fun r20=>ab k (cY k (ae x2) 0 2) fun r21=>ab k (eU k (ae r20) [(Cl.mk 1 0)] (ae r21)) fun r22=>ab k (ee k 12 (ae r22)) fun r23=>Y (ae r23)))) (ac (decide ((b9.kind:Int)<0)) (Y (ae b9)) (ab k (cY k (ae x1) 0 2) fun r24=>ab k (eU k (ae b9) [(Cl.mk 0 1)] (ae r24)) fun r25=>ab k (cY k (ae x2) 0 2) fun r26=>ab k (eU k (ae r25) [(Cl.mk 1 0)] (ae r26)) fun r27=>ab k (ee k 12 (ae r27)) fun r28=>Y (ae r28)))
def ot (k:Nat) (Y:Tm->OS S) (x1 x2:Tm) (sys:LB):Nat->Tm->Int->OS S
 |0=>fun _ _=> .none
 |m+1=>fun b9 i10=>tF k Y x1 x2 sys (ot k Y x1 x2 sys m) b9 i10
def OE (k:Nat) (Y:Tm->OS S) (J0:Tm->Tm->Tm->Int->OS S) (a_k a:Tm) (sys:LB):OS S:=ag (ai a_k.kids 1) fun x1=>ag (ai a_k.kids 2) fun x2=>ag (ai a_k.kids 0) fun x3=>ab k (cY k (ae a) 0 1) fun r4=>ab k (cY k (ae x1) 0 1) fun r5=>ab k (cY k (ae x2) 0 1) fun r6=>ab k (y8 k (ae r4) (ae r5) (ae r6) [(Cl.mk 1 0)]) fun r7=>ab k (cG k 15 (ae x3) (ae r7)) fun r8=>J0 x1 x2 (ae r8) 0
def EG (k:Nat) (a_k a:Tm) (sys:LB) (Y:Tm->OS S):OS S:=OE k Y (fun x1 x2 b9 i10=>ot k Y x1 x2 sys k b9 i10) a_k a sys
def IP (k:Nat) (Y:Pan Tm (Int×Int×BA×LT)->OS S) (kind:Int) (kids:LT) (rec0:Int->OS S) (i5:Int):OS S:=ac (decide ((i5:Int)<(kids.length:Int))) (ag (ai kids i5) fun x1=>ac (decide ((x1.kind:Int)<0)) (ag (ai kids i5) fun x2=>Y (.pan (ae x2))) (rec0 (af .i64 (i5+1)))) (Y (.ok (kind,0,au,kids)))
def FE (k:Nat) (Y:Pan Tm (Int×Int×BA×LT)->OS S) (kind:Int) (kids:LT):Nat->Int->OS S
 |0=>fun _=> .none
 |m+1=>fun i5=>IP k Y kind kids (FE k Y kind kids m) i5
def Oy (k:Nat) (Y:Pan Tm (Int×Int×BA×LT)->OS S) (J0:Int->OS S) (kind:Int) (kids:LT):OS S:=J0 0
def Jr (k:Nat) (kind:Int) (kids:LT) (Y:Pan Tm (Int×Int×BA×LT)->OS S):OS S:=Oy k Y (fun i5=>FE k Y kind kids k i5) kind kids
def Ev (k:Nat) (kind:Int) (a:Tm) (Y:Pan Tm (Int×Int×BA×LT)->OS S):OS S:=ab k (Jr k kind [(ae a)]) fun r2=>Pan.elim r2 (fun r2=>Y (.ok (r2.1,r2.2.1,r2.2.2.1,r2.2.2.2))) (fun e3=>Y (.pan (ae e3)))
def yZ (k:Nat) (t a f y:Tm) (Y:Tm->OS S):OS S:=ab k (cY k (ae a) 1 1) fun r1=>ab k (cY k (ae y) 1 0) fun r2=>ab k (cY k (ae f) 1 0) fun r3=>ab k (gV k 0) fun r4=>ab k (cG k 6 (ae r3) (Tm.mk r4.1 r4.2.1 r4.2.2 [] [] [])) fun r5=>ab k (nF k 11 (ae r1) (ae r2) (ae r5)) fun r6=>ab k (cG k 7 (ae t) (ae r6)) fun r7=>Y (ae r7)
def yX (k:Nat) (t:Tm) (Y:Tm->OS S):OS S:=ab k (cY k (ae t) 1 0) fun r1=>ab k (cY k (ae t) 2 1) fun r2=>ab k (gV k 1) fun r3=>ab k (gV k 0) fun r4=>ab k (nF k 11 (ae r2) (Tm.mk r3.1 r3.2.1 r3.2.2 [] [] []) (Tm.mk r4.1 r4.2.1 r4.2.2 [] [] [])) fun r5=>ab k (cG k 4 (ae r1) (ae r5)) fun r6=>ab k (cG k 7 (ae t) (ae r6)) fun r7=>Y (ae r7)
def yY (k:Nat) (t a:Tm) (Y:Tm->OS S):OS S:=ab k (cY k (ae a) 1 0) fun r1=>ab k (cG k 4 (ae t) (ae r1)) fun r2=>ab k (cY k (ae a) 1 0) fun r3=>ab k (cY k (ae t) 2 0) fun r4=>ab k (cY k (ae a) 2 0) fun r5=>ab k (gV k 1) fun r6=>ab k (gV k 0) fun r7=>ab k (yZ k (ae r4) (ae r5) (Tm.mk r6.1 r6.2.1 r6.2.2 [] [] []) (Tm.mk r7.1 r7.2.1 r7.2.2 [] [] [])) fun r8=>ab k (yX k (ae r8)) fun r9=>ab k (cG k 4 (ae r3) (ae r9)) fun r10=>ab k (cG k 7 (ae r2) (ae r10)) fun r11=>Y (ae r11)
def Eu (k:Nat) (t a:Tm) (Y:Tm×Int->OS S):OS S:=ab k (rx k [(ae t),(ae a)]) fun r1=>ac (!(r1==0)) (Y ((Tm.mk 0 0 au [] [] []),r1)) (ab k (yY k (ae t) (ae a)) fun r2=>ab k (pn k (ae r2)) fun r3=>Y ((ae r3.1),r3.2))
def Js (k:Nat) (a_r:LC) (Y:Tm->OS S):OS S:=ab k (gV k 0) fun r1=>ab k (ee k 10 (Tm.mk r1.1 r1.2.1 r1.2.2 [] [] [])) fun r2=>ab k (gV k 1) fun r3=>ab k (gV k 0) fun r4=>ab k (ee k 9 (Tm.mk r4.1 r4.2.1 r4.2.2 [] [] [])) fun r5=>ab k (nF k 13 (ae r2) (Tm.mk r3.1 r3.2.1 r3.2.2 [] [] []) (ae r5)) fun r6=>Y (Tm.mk r6.kind r6.n r6.name a_r r6.kids r6.sys)
def Jq (k:Nat) (Y:Tm->OS S):OS S:=ab k (Js k [(Cl.mk 1 0)]) fun r1=>ab k (Js k [(Cl.mk 3 0)]) fun r2=>ab k (ee k 12 (ae r2)) fun r3=>ab k (cG k 8 (ae r1) (ae r3)) fun r4=>ab k (gV k 0) fun r5=>ab k (gV k 0) fun r6=>ab k (ee k 12 (Tm.mk r6.1 r6.2.1 r6.2.2 [] [] [])) fun r7=>ab k (cG k 8 (Tm.mk r5.1 r5.2.1 r5.2.2 [] [] []) (ae r7)) fun r8=>ab k (gV k 0) fun r9=>ab k (ee k 5 (Tm.mk r9.1 r9.2.1 r9.2.2 [] [] [])) fun r10=>ab k (ee k 12 (ae r4)) fun r11=>ab k (ee k 5 (ae r11)) fun r12=>ab k (cG k 8 (ae r8) (ae r12)) fun r13=>ab k (ee k 5 (ae r13)) fun r14=>ab k (cG k 8 (ae r10) (ae r14)) fun r15=>Y (ae r15)
def xW (k:Nat) (Y:Tm->OS S) (a:Tm) (r2:Int×Int×BA×LT) (sys:LB) (rec0:(LB)->Int->OS S) (b5_5:LB) (i6:Int):OS S:=ac (decide ((i6:Int)<(sys.length:Int))) (ac (decide ((r2.1:Int)>=0)) (ag (ai sys i6) fun x4=>ag (ai x4.kids 0) fun x5=>ab k (rn k (ae x5) 0 [(Cl.mk 0 0)]) fun r6=>ac (decide ((r6.kind:Int)<0)) (Y (ae r6)) (ab k (cY k (ae a) 0 1) fun r7=>ac (decide ((r7.kind:Int)<0)) (Y (ae r7)) (ag (ai sys i6) fun x8=>ag (ai x8.kids 0) fun x9=>ab k (Eu k (ae x9) (ae r7)) fun r10=>ab k (uh k (ae r10.1) r10.2) fun r11=>ab k (Jq k) fun r12=>ab k (cG k 14 (ae r11) (ae r12)) fun r13=>ac (decide ((r13.kind:Int)<0)) (Y (ae r13)) (ag (ai sys i6) fun x14=>ag (aS 1099511627776 b5_5.length [(Br.mk x14.face [(ae r6),(ae r13)])].length) fun x15=>rec0 (b5_5++[(Br.mk x14.face [(ae r6),(ae r13)])]) (af .i64 (i6+1)))))) (Y (Tm.mk r2.1 r2.2.1 r2.2.2.1 [] r2.2.2.2 b5_5))) (Y (Tm.mk r2.1 r2.2.1 r2.2.2.1 [] r2.2.2.2 b5_5))
def sq (k:Nat) (Y:Tm->OS S) (a:Tm) (r2:Int×Int×BA×LT) (sys:LB):Nat->(LB)->Int->OS S
 |0=>fun _ _=> .none
 |m+1=>fun b5_5 i6=>xW k Y a r2 sys (sq k Y a r2 sys m) b5_5 i6
def OF (k:Nat) (Y:Tm->OS S) (J0:(Int×Int×BA×LT)->(LB)->Int->OS S) (a:Tm) (sys:LB):OS S:=ab k (Ev k 16 (ae a)) fun r2=>Pan.elim r2 (fun r2=>J0 r2 ([]:LB) 0) (fun e3=>Option.none)
def EH (k:Nat) (a:Tm) (sys:LB) (Y:Tm->OS S):OS S:=OF k Y (fun r2 b5_5 i6=>sq k Y a r2 sys k b5_5 i6) a sys
def CS (k:Nat) (Y:LB->OS S) (g:Tm) (rec0:(LB)->Int->OS S) (out3:LB) (i4:Int):OS S:=ac (decide ((i4:Int)<(g.sys.length:Int))) (ag (ai g.sys i4) fun x1=>ag (ai g.sys i4) fun x2=>ag (ai x2.kids 1) fun x3=>ag (aS 1099511627776 out3.length [(Br.mk x1.face [(ae x3)])].length) fun x4=>rec0 (out3++[(Br.mk x1.face [(ae x3)])]) (af .i64 (i4+1))) (Y out3)
def vC (k:Nat) (Y:LB->OS S) (g:Tm):Nat->(LB)->Int->OS S
 |0=>fun _ _=> .none
 |m+1=>fun out3 i4=>CS k Y g (vC k Y g m) out3 i4
def OB (k:Nat) (Y:LB->OS S) (J0:(LB)->Int->OS S) (g:Tm):OS S:=J0 ([]:LB) 0
def EC (k:Nat) (g:Tm) (Y:LB->OS S):OS S:=OB k Y (fun out3 i4=>vC k Y g k out3 i4) g
def ug (k:Nat) (a:Tm) (es:LB) (Y:Tm->OS S):OS S:=ab k (ee k 18 (ae a)) fun r1=>ac (decide ((r1.kind:Int)>=0)) (Y (Tm.mk r1.kind r1.n r1.name r1.r r1.kids es)) (Y (ae r1))
def Ez (k:Nat) (a_e:Tm) (Y:Tm->OS S):OS S:=ab k (ee k 9 (ae a_e)) fun r1=>Y (ae r1)
def EB (k:Nat) (t a:Tm) (sys:LB) (Y:Tm->OS S):OS S:=ab k (cG k 15 (ae t) (ae a)) fun r1=>ac (decide ((r1.kind:Int)>=0)) (Y (Tm.mk r1.kind r1.n r1.name r1.r r1.kids sys)) (Y (ae r1))
def CR (k:Nat) (Y:Tm->OS S) (t x2 x3:Tm) (rec2:Tm->Int->OS S) (b13:Tm) (i14:Int):OS S:=ac (decide ((i14:Int)<(x2.sys.length:Int))) (ac (decide ((b13.kind:Int)>=0)) (ag (ai x2.sys i14) fun x27=>ag (ai x2.sys i14) fun x28=>ag (ai x28.kids 0) fun x29=>ab k (EB k (ae x29) (ae x3) t.sys) fun r30=>ab k (eU k (ae b13) x27.face (ae r30)) fun r31=>rec2 (ae r31) (af .i64 (i14+1))) (Y (ae b13))) (Y (ae b13))
def p7 (k:Nat) (Y:Tm->OS S) (t x2 x3:Tm):Nat->Tm->Int->OS S
 |0=>fun _ _=> .none
 |m+1=>fun b13 i14=>CR k Y t x2 x3 (p7 k Y t x2 x3 m) b13 i14
def tC (k:Nat) (Y:Tm->OS S) (t x2 x3:Tm) (J2:Tm->Int->OS S) (rec1:Tm->Int->OS S) (b6':Tm) (i9:Int):OS S:=ac (decide ((i9:Int)<(x2.sys.length:Int))) (ac (decide ((b6'.kind:Int)>=0)) (ag (ai x2.sys i9) fun x15=>ag (ai x15.kids 1) fun x16=>ab k (cY k (ae x16) 0 1) fun r17=>ab k (Ez k (ae r17)) fun r18=>ac (decide ((r18.kind:Int)<0)) (Y (ae r18)) (ag (ai x2.sys i9) fun x19=>ag (ai x19.kids 0) fun x20=>ab k (y6 k (ae x20) (ae x3) t.sys) fun r21=>ac (!(r21.2==0)) (ab k (e_ k r21.2) fun r22=>Y (Tm.mk r22.1 r22.2.1 r22.2.2 [] [] [])) (ag (ai x2.sys i9) fun x23=>ab k (cG k 6 (ae r18) (ae r21.1)) fun r24=>ab k (eU k (ae b6') x23.face (ae r24)) fun r25=>rec1 (ae r25) (af .i64 (i9+1))))) (ab k (ee k 17 (ae b6')) fun r26=>J2 (ae r26) 0)) (ab k (ee k 17 (ae b6')) fun r32=>J2 (ae r32) 0)
def om (k:Nat) (Y:Tm->OS S) (t x2 x3:Tm):Nat->Tm->Int->OS S
 |0=>fun _ _=> .none
 |m+1=>fun b6' i9=>tC k Y t x2 x3 (fun b13 i14=>p7 k Y t x2 x3 k b13 i14) (om k Y t x2 x3 m) b6' i9
def tB (k:Nat) (Y:Tm->OS S) (t x2 x3:Tm) (r4:LB) (J1:Tm->Int->OS S) (rec0:Tm->Int->OS S) (b6:Tm) (i7:Int):OS S:=ac (decide ((i7:Int)<(t.sys.length:Int))) (ac (decide ((b6.kind:Int)>=0)) (ab k (ug k (Tm.mk 3 0 au [] [] []) r4) fun r8=>ab k (cY k (ae r8) 0 1) fun r9=>ac (decide ((r9.kind:Int)<0)) (Y (ae r9)) (ag (ai t.sys i7) fun x10=>ag (ai t.sys i7) fun x11=>ag (ai x11.kids 0) fun x12=>ab k (ug k (ae x12) r9.sys) fun r13=>ab k (eU k (ae b6) x10.face (ae r13)) fun r14=>rec0 (ae r14) (af .i64 (i7+1)))) (J1 (ae b6) 0)) (J1 (ae b6) 0)
def pZ (k:Nat) (Y:Tm->OS S) (t x2 x3:Tm) (r4:LB):Nat->Tm->Int->OS S
 |0=>fun _ _=> .none
 |m+1=>fun b6 i7=>tB k Y t x2 x3 r4 (fun b6' i9=>om k Y t x2 x3 k b6' i9) (pZ k Y t x2 x3 r4 m) b6 i7
def OA (k:Nat) (Y:Tm->OS S) (J0:Tm->Tm->(LB)->Tm->Int->OS S) (t:Tm):OS S:=ac (!(t.kind==15)) (Y (Tm.mk 0 0 au [] [] [])) (ag (ai t.kids 0) fun x1=>ac (!(x1.kind==16)) (Y (Tm.mk 0 0 au [] [] [])) (ag (ai t.kids 0) fun x2=>ag (ai t.kids 1) fun x3=>ab k (EC k (ae x2)) fun r4=>ag (ai x2.kids 0) fun x5=>ab k (ug k (ae x3) r4) fun r6=>ab k (cG k 15 (ae x5) (ae r6)) fun r7=>J0 x2 x3 r4 (ae r7) 0))
def EA (k:Nat) (t:Tm) (Y:Tm->OS S):OS S:=OA k Y (fun x2 x3 r4 b6 i7=>pZ k Y t x2 x3 r4 k b6 i7) t
def ED (k:Nat) (t:Tm) (Y:Tm->OS S):OS S:=ac (!(t.kind==15)) (Y (Tm.mk 0 0 au [] [] [])) (ag (ai t.kids 0) fun x1=>ac (x1.kind==4) (ag (ai t.kids 1) fun x2=>ab k (EF k (ae x1) (ae x2) t.sys) fun r3=>Y (ae r3)) (ac (x1.kind==7) (ag (ai t.kids 1) fun x4=>ab k (EE k (ae x1) (ae x4) t.sys) fun r5=>Y (ae r5)) (ac (x1.kind==11) (ag (ai t.kids 1) fun x6=>ab k (EG k (ae x1) (ae x6) t.sys) fun r7=>Y (ae r7)) (ac (x1.kind==3) (ag (ai t.kids 1) fun x8=>ab k (EH k (ae x8) t.sys) fun r9=>Y (ae r9)) (ab k (EA k (ae t)) fun r10=>Y (ae r10))))))
def Ew (k:Nat) (t out:Tm) (Y:Tm×Bool×Int->OS S):OS S:=ac (out.kind==0) (Y ((Tm.mk 0 0 au [] [] []),false,0)) (ab k (pn k (ae out)) fun r1=>Y ((ae r1.1),r1.2==0,r1.2))
def y9 (k:Nat) (t:Tm) (Y:Tm×Bool×Int->OS S):OS S:=ab k (pk k (ae t)) fun r1=>ac (!(r1==0)) (Y ((Tm.mk 0 0 au [] [] []),false,r1)) (ab k (ED k (ae t)) fun r2=>ab k (Ew k (ae t) (ae r2)) fun r3=>Y ((ae r3.1),r3.2.1,r3.2.2))
def DT (k:Nat) (t:Tm) (Y:Bool->OS S):OS S:=ab k (DU k (ae t)) fun r1=>ac (r1) (ab k (yB k) fun r2=>Y r2) (mu k (ae t) fun r3=>ab k (o_ k (ae r3)) fun r4=>ab k (y9 k (ae t)) fun r5=>gG k (ae r4.1) (ae r5.1) fun r6=>ac (r6) (ac (r4.2.1==r5.2.1) (ac (r4.2.2==r5.2.2) (gG k (ae r3) (ae t) fun r7=>ac (r7) (ab k (yB k) fun r8=>Y r8) (Y false)) (Y false)) (Y false)) (Y false))
abbrev acT (S:Type):=Tm->(Int->OS S)->OS S
abbrev acR (S:Type):=Tm->(Int->OS S)->OS S
abbrev acS (S:Type):=Tm->(Int->OS S)->OS S
end
end Go.Proofs.YtgajalidbabccaaGreatDoor
