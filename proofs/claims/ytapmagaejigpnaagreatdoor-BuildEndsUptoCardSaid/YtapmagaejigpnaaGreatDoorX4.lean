/- Part 4 of a proof: the sources, with their names and remarks, lie in wip/. -/
import Derived.Test.YtapmagaejigpnaaGreatDoorX3
import Derived.Test.YtapmagaejigpnaaGreatDoorProg
import Derived.KernelRfl
namespace Go.Proofs.YtapmagaejigpnaaGreatDoor.PI
open Go
set_option linter.unusedVariables false
set_option linter.unusedSimpArgs false
section
variable {U:Uni} {V:Env U} {P:Program} {X:Link V P}
theorem uY {fn:Func} {w0:World} {N0:au} {n m:Nat} {ν:Nat→Nat} {δ:Nat→Option Nat} {c':Ctx} (hc:CtxOf c' w0 N0 n m ν δ) (hdom: ∀j b,δ j=some b→j<m) {v:PV U} {u u':FrameMode} (hv:RcvOK v u u')
  {hh:FuncId} {caps:List (PV U)} {us:Array Value} (hct:sO c' caps us) {τ τ1:St U} {r:MR U} {τ0:St U} {gp gp':List Loc} {K:bF U} {keep:Bool} {hand:List Bool} {out:Out U} {τ2:St U}
  (hrel:(fe (PV.idsL caps) fun _=>fK [] none (.func hh [] caps) []).Rel (gr X (g4 P u u')) τ [] r τ0 gp) (hr:r= .done) (ht:τ0.eqv τ1) (hret:(gb V keep hand fn.results.toList n).Rel K τ1 [] (.out out) τ2 gp')
  {a:Act} {w:World} {g:Gh U} {D:Nat→Option Nat} (hs:Sim X c' a.tmps w τ g D):
  Leaves P fn a.tmps (dn X w0 N0 ν δ n m out) [{target:= .fn (.func hh) us,args:= #[]}] u w:=by
 obtain ⟨bs,fp1,hrel1,hkeys,hbs⟩:=uB _ hrel
 have hR:Rep X w (c'.N g D) g (.func (.func hh) #[] us) (.func hh [] caps):=by
  refine .func hh [] caps #[] us rfl hct.1 (by simp) fun j p hp=> ?_
  obtain ⟨id,off,b,rfl,hfix,hus⟩:=hct.2 j p hp
  rw [hus]
  refine .ptr id off b ?_
  have hin:id∈PV.idsL caps:=dC hp id (by simp [PV.ids])
  rw [←hkeys] at hin
  obtain ⟨x,hx,rfl⟩:=List.mem_map.1 hin
  obtain ⟨k,hk,_⟩:=hs.boxes x.1 x.2 (hbs x hx)
  rcases hs.fix _ _ hk with h1|⟨h1,_⟩
  ·rw [hfix] at h1;injection h1 with h1;rw [h1];exact hk
  ·rw [hfix] at h1;cases h1
 obtain ⟨f,a0s,bs',hfv,⟨fnh,hfh,hnameh,hbodyh⟩,hcall⟩:=yw (X:=X) (c:=c') (a:=a) (dst:=none) (o:=⟨none,.move (.const undef),0, "",#[],none⟩) (CP:=g4 P u u') (xs:= #[])
  (next:=fun a2 w2=>Leaves P fn a2.tmps (dn X w0 N0 ν δ n m out) [] .returning w2) (Q:=fun _ _ _=>False)
  (fun {f vs w R R'} h hm=>CallsD.mono h fun e u2 w2 ⟨h1,h2⟩=>⟨h1,hm e w2 h2⟩) hs hR rfl (by simp) rfl rfl hrel1
  ⟨fun _ a2 w2 g2 D2 _ hs2=>by
   obtain ⟨v,h1,h2⟩:=lD hc hdom (hs2.eqv ht) hret
   exact ⟨v,h1,h2⟩,fun v hv=>by rw [hr] at hv;cases hv⟩
 injection hfv with e1 e2 e3
 injection e1 with e1
 subst e1;subst e2;subst e3
 have hun:u≠ .run:=by cases hv<;>simp
 refine leaves_cons hun (f:=hh) (args:= #[]++us) (by simp only [invoke];exact DB hfh hnameh hbodyh _ w) ?_
 have hcall2:CallsD P hh (#[]++us) u w fun e u2 w'=>u2=u'∧(match e,w' with
    | .returned v,w''=>Leaves P fn (a.put none v).tmps (dn X w0 N0 ν δ n m out) [] .returning w''
    | .panicked chain,w''=>False
    | .outgrown,_=>LetsOut (fun _ _ _=>False)):=by
  have:=hcall
  simp only [Array.append_empty] at this
  exact this.mono fun e u2 w2 ⟨h1,h2⟩=>⟨h1,by cases e<;>exact h2⟩
 refine hcall2.mono fun e u2 w2 ⟨h1,h2⟩=> ?_
 subst h1
 cases e with
 |returned rv=>
  simp only [Act.put] at h2
  have hset:settle u2= .returning:=by cases hv<;>rfl
  simp only [hset]
  exact h2
 |panicked chain=>exact h2.elim
 |outgrown=>obtain ⟨_,_,h⟩:=h2;exact h.elim
theorem Qj (hm:P.follows .mixedOrders=true) (hI:g5 X) {S:Side U} (hS:S.rcv=none) {R:Type} {C:Oracle U R} (hC:C.Tells (bQ X)) {Cd:PV U→Oracle U R} (hCd: ∀v u u',RcvOK v u u'→(Cd v).Tells (gr X (g4 P u u')))
  {f:FuncId} {fn:Func} (hf:P.funcs[f]? =some fn)
  (hname:(fn.name== "runtime.NumGoroutine")=false) (hbody:fn.body.isNone=false) (hnt:fn.ntmps=S.nt) (hlow:S.nt≤1000000) {args:List (PV U)} {boxes:List (Box U)} (hargs:args.length≤S.nt) (hboxes:boxes.length≤1000000)
  {ann:Nat→Option Ann} {fuel:Nat} {keep:Bool} {hand:List Bool} {κ:Out U→Option R} {x:R} (h:wv V S C ann fuel Cd keep hand fn args boxes κ=some x): ∃out,κ out=some x∧bQ X f args boxes out:=by
 obtain ⟨code,hcode⟩: ∃code,fn.body=some code:=by
  cases hb:fn.body with
  |none=>rw [hb] at hbody;cases hbody
  |some code=>exact ⟨code,rfl⟩
 unfold wv eI at h
 rw [hcode] at h
 have hpin: ∀ {w:World} {vs:Array Value} {N0:au} {ν:Nat→Nat} {δ:Nat→Option Nat} (hg:Given X w vs N0 ν δ args boxes),PinOK S (eG w N0 boxes.length args.length ν δ S.nt hlow hg.bnd X.gblk hg.glob):=by
  intro w vs N0 ν δ hg d _
  simp only [eG]
  rw [if_neg (by omega)]
 rcases Qk (X:=X) hm hI hS hlow hC code h with ⟨e,τ,he,hk,hB⟩|⟨hh,caps,e,τ,hk,hB⟩
 ·have key: ∀ {out:Out U},(∀ (w:World) (vs:Array Value) (N0:au) (ν:Nat→Nat) (δ:Nat→Option Nat) (hg:Given X w vs N0 ν δ args boxes),
    Lands X (eG w N0 boxes.length args.length ν δ S.nt hlow hg.bnd X.gblk hg.glob) [] e τ (bodyPost P fn (dn X w N0 ν δ boxes.length args.length out)))→bQ X f args boxes out:=by
   intro out hl
   refine ⟨⟨fn,hf,hname,hbody⟩,fun w vs N0 ν δ hg=>calls_of_wp hf hcode ?_⟩
   have hs:=sz hg hargs hlow
   rw [hnt]
   exact hB _ (hpin hg) rfl _ w _ _ _ hs (hl w vs N0 ν δ hg)
  cases e with
  |exit id=>cases hk
  |normal=>exact absurd rfl he
  |ret=>
   obtain ⟨r,τ0,τ1,gp,hr,ht,hfin⟩:=eJ hC _ hk (St.eqv.refl τ)
   cases r with
   |out o=>
    refine ⟨o,hfin,key fun w vs N0 ν δ hg a' w' g' D' hd hs=> ?_⟩
    obtain ⟨v,h1,h2⟩:=lD gY hg.dom hs hr
    exact ⟨hd,v,h1,h2⟩
   |_=>cases hfin
  |panic v=>
   obtain ⟨r,τ0,τ1,gp,hr,ht,hfin⟩:=eJ hC _ hk (St.eqv.refl τ)
   cases r with
   |out o=>
    refine ⟨o,hfin,key fun w vs N0 ν δ hg a' w' g' D' hd hs val hval=> ?_⟩
    exact ⟨hd,vD gY hg.dom hs hval hr⟩
   |_=>cases hfin
 ·have key: ∀ {out:Out U},(∀ (w:World) (vs:Array Value) (N0:au) (ν:Nat→Nat) (δ:Nat→Option Nat) (hg:Given X w vs N0 ν δ args boxes) (us:Array Value) (c':Ctx),CtxOf c' w N0 boxes.length args.length ν δ→sO c' caps us→
    Lands X c' [{target:= .fn (.func hh) us,args:= #[]}] e τ (bodyPostD P fn (dn X w N0 ν δ boxes.length args.length out)))→bQ X f args boxes out:=by
   intro out hl
   refine ⟨⟨fn,hf,hname,hbody⟩,fun w vs N0 ν δ hg=>calls_of_wp_defers hf hcode ?_⟩
   have hs:=sz hg hargs hlow
   rw [hnt]
   exact hB _ (hpin hg) rfl _ w _ _ _ hs rfl fun us c' hcx _ hct=>hl w vs N0 ν δ hg us c' (hcx _ _ _ _ _ _ gY) hct
  have fin: ∀ {v:PV U} {u u':FrameMode},RcvOK v u u'→(fe (PV.idsL caps) fun _=>fK [] none (.func hh [] caps) []).cps (Cd v) τ [] (fun| .done,σ',_=>(gb V keep hand fn.results.toList boxes.length).cps C σ' [] (Go.Proofs.YtapmagaejigpnaaGreatDoor.PI.fin κ)|_,_,_=>none)=some x→
    ∃ (out:Out U) (r:MR U) (τ0 τ1 τ2:St U) (gp gp':List Loc),κ out=some x∧(fe (PV.idsL caps) fun _=>fK [] none (.func hh [] caps) []).Rel (gr X (g4 P u u')) τ [] r τ0 gp∧r= .done∧τ0.eqv τ1∧(gb V keep hand fn.results.toList boxes.length).Rel (bQ X) τ1 [] (.out out) τ2 gp':=by
   intro v u u' hv hk
   obtain ⟨r,τ0,τ1,gp,hr,ht,hk1⟩:=eJ (hCd v u u' hv) _ hk (St.eqv.refl τ)
   cases r with
   |raise v=>cases hk1
   |out o=>cases hk1
   |done=>
    obtain ⟨r',τ2,τ3,gp',hr',ht',hk2⟩:=eJ hC _ hk1 (St.eqv.refl τ1)
    cases r' with
    |out o=>exact ⟨o,.done,τ0,τ1,τ2,gp,gp',hk2,hr,rfl,ht,hr'⟩
    |_=>cases hk2
  cases e with
  |exit id=>cases hk
  |normal=>
   obtain ⟨out,r,τ0,τ1,τ2,gp,gp',h1,h2,h3,h4,h5⟩:=fin .nil hk
   refine ⟨out,h1,key fun w vs N0 ν δ hg us c' hcx hct a' w' g' D' hd hs=> ?_⟩
   simp only [bodyPostD,hd]
   exact uY hcx hg.dom .nil hct h2 h3 h4 h5 hs
  |ret=>
   obtain ⟨out,r,τ0,τ1,τ2,gp,gp',h1,h2,h3,h4,h5⟩:=fin .nil hk
   refine ⟨out,h1,key fun w vs N0 ν δ hg us c' hcx hct a' w' g' D' hd hs=> ?_⟩
   simp only [bodyPostD,hd]
   exact uY hcx hg.dom .nil hct h2 h3 h4 h5 hs
  |panic v=>
   simp only [kD] at hk
   split at hk
   case h_2=>cases hk
   rename_i t k n'
   obtain ⟨out,r,τ0,τ1,τ2,gp,gp',h1,h2,h3,h4,h5⟩:=fin (.err t k n') hk
   refine ⟨out,h1,key fun w vs N0 ν δ hg us c' hcx hct a' w' g' D' hd hs val hval=> ?_⟩
   simp only [bodyPostD,hd]
   cases hval with
   |iface _ u _ hu=>cases hu;exact uY hcx hg.dom (.err t k n') hct h2 h3 h4 h5 hs
end
end Go.Proofs.YtapmagaejigpnaaGreatDoor.PI
namespace Go.Proofs.YtapmagaejigpnaaGreatDoor
open Go PI
set_option linter.unusedVariables false
set_option maxRecDepth 100000
noncomputable section
noncomputable def m9:ET→TypeId
 | .C=>61
 | .T=>26
 | .B=>63
 | .I=>3
 | .F=>22
noncomputable def kB:ET→Nat
 | .C=>2
 | .T=>6
 | .B=>2
 | .I=>1
 | .F=>1
noncomputable def qn:ET→Nat
 | .C=>8
 | .T=>104
 | .B=>48
 | .I=>8
 | .F=>24
noncomputable def qA (e:ET):Value:=((Tryz.prog.info? (m9 e)).bind (·.zero)).getD undef
noncomputable def ur (e:ET):Bool:=match Tryz.prog.info? (m9 e) with
 |some i=>i.zero.isSome&&(Nat.beq i.size (kB e)&&Nat.beq i.bytes (qn e))&&Nat.beq (qA e).cells.size (kB e)
 | .none=>false
theorem zx (e:ET):ur e=true:=by cases e<;>kernel_rfl
theorem FS: ∀t r,om t=some r→xY Tryz.prog m9 t r=true:=by
 intro t r h
 unfold om at h
 split at h<;>first|(injection h with h;subst h;kernel_rfl)|cases h
theorem MW: ∀t r e,om t=some r→r.keys=some e→e= .C:=by
 intro t r e h hk
 unfold om at h
 split at h<;>first|(injection h with h;subst h;cases hk;done)|(injection h with h;subst h;injection hk with hk;exact hk.symm)|cases h
theorem Sl: ∀e cs y,FQ e cs=some y→cs.length=kB e∧cs.all PV.isCell=true∧ ∀ (k:Nat) p,cs[k]? =some p→ ∃q,(cx e y)[k]? =some q∧p.less q:=by
 have hC: ∀ {p:PU} {l},l7 p=some l→ ∃o,p= .sl (U:=UU) ET.C l o:=by
  intro p l h;unfold l7 at h;split at h<;>first|(injection h with h;subst h;exact ⟨_,rfl⟩)|cases h
 have hT: ∀ {p:PU} {l},oC p=some l→ ∃o,p= .sl (U:=UU) ET.T l o:=by
  intro p l h;unfold oC at h;split at h<;>first|(injection h with h;subst h;exact ⟨_,rfl⟩)|cases h
 have hB: ∀ {p:PU} {l},tw p=some l→ ∃o,p= .sl (U:=UU) ET.B l o:=by
  intro p l h;unfold tw at h;split at h<;>first|(injection h with h;subst h;exact ⟨_,rfl⟩)|cases h
 intro e cs y h
 cases e
 ·have h:xU cs=some y:=h
  unfold xU at h
  split at h
  case h_2=>cases h
  injection h with h;subst h
  refine ⟨rfl,rfl,fun k p hp=> ?_⟩
  match k,hp with
  |0,hp=>exact ⟨_,rfl,.inl (Option.some.inj hp).symm⟩
  |1,hp=>exact ⟨_,rfl,.inl (Option.some.inj hp).symm⟩
  |k+2,hp=>simp at hp
 ·have h:xX cs=some y:=h
  unfold xX at h
  split at h
  case h_2=>cases h
  split at h
  case h_2=>cases h
  rename_i h1 h2 h3
  injection h with h;subst h
  obtain ⟨o1,rfl⟩:=hC h1;obtain ⟨o2,rfl⟩:=hT h2;obtain ⟨o3,rfl⟩:=hB h3
  refine ⟨rfl,rfl,fun k p hp=> ?_⟩
  match k,hp with
  |0,hp=>exact ⟨_,rfl,.inl (Option.some.inj hp).symm⟩
  |1,hp=>exact ⟨_,rfl,.inl (Option.some.inj hp).symm⟩
  |2,hp=>exact ⟨_,rfl,.inl (Option.some.inj hp).symm⟩
  |3,hp=>exact ⟨_,rfl,.inr ⟨_,_,_,(Option.some.inj hp).symm,rfl⟩⟩
  |4,hp=>exact ⟨_,rfl,.inr ⟨_,_,_,(Option.some.inj hp).symm,rfl⟩⟩
  |5,hp=>exact ⟨_,rfl,.inr ⟨_,_,_,(Option.some.inj hp).symm,rfl⟩⟩
  |k+6,hp=>simp at hp
 ·have h:xS cs=some y:=h
  unfold xS at h
  split at h
  case h_2=>cases h
  split at h
  case h_2=>cases h
  rename_i h1 h2
  injection h with h;subst h
  obtain ⟨o1,rfl⟩:=hC h1;obtain ⟨o2,rfl⟩:=hT h2
  refine ⟨rfl,rfl,fun k p hp=> ?_⟩
  match k,hp with
  |0,hp=>exact ⟨_,rfl,.inr ⟨_,_,_,(Option.some.inj hp).symm,rfl⟩⟩
  |1,hp=>exact ⟨_,rfl,.inr ⟨_,_,_,(Option.some.inj hp).symm,rfl⟩⟩
  |k+2,hp=>simp at hp
 ·have h:xW cs=some y:=h
  unfold xW at h
  split at h
  case h_2=>cases h
  injection h with h;subst h
  refine ⟨rfl,rfl,fun k p hp=> ?_⟩
  match k,hp with
  |0,hp=>exact ⟨_,rfl,.inl (Option.some.inj hp).symm⟩
  |k+1,hp=>simp at hp
 ·have h:xV cs=some y:=h
  unfold xV at h
  split at h
  case h_2=>cases h
  obtain ⟨o1,rfl⟩:=hC h
  refine ⟨rfl,rfl,fun k p hp=> ?_⟩
  match k,hp with
  |0,hp=>exact ⟨_,rfl,.inr ⟨_,_,_,(Option.some.inj hp).symm,rfl⟩⟩
  |k+1,hp=>simp at hp
theorem Lo (e:ET): ∃i,Tryz.prog.info? (m9 e)=some i∧i.zero=some (qA e)∧i.size=kB e∧i.bytes=qn e:=by
 have h:=zx e
 unfold ur at h
 split at h
 ·rename_i i hi
  simp only [Bool.and_eq_true] at h
  obtain ⟨⟨h1,h2,h3⟩,h4⟩:=h
  refine ⟨i,hi, ?_,by simpa using h2,by simpa using h3⟩
  unfold qA
  rw [hi]
  obtain ⟨z,hz⟩:=Option.isSome_iff_exists.1 h1
  simp [hz]
 ·cases h
noncomputable def LL (o:Obj):Link VV Tryz.prog where
 gblk:=[(0,o)]
 etid:=m9
 esize:=kB
 ebytes:=qn
 ezero:=qA
 einfo:=Lo
 zsize:=fun e=>by
  have h:=zx e
  unfold ur at h
  split at h
  ·simp only [Bool.and_eq_true] at h
   exact by simpa using h.2
  ·cases h
 epos:=fun e=>by cases e<;>decide
 broom:=fun e n h=>by
  have h':n≤1099511627776:=h
  cases e<;>simp only [qn,maxLen]<;>omega
 len:=fun e x=>by cases e<;>rfl
 small:=fun e=>by cases e<;>decide
 ecell':=fun e x=>by cases e<;>rfl
 toEl:=Sl
 ty:=fun t r h=>FR (FS t r h)
 keyT:=fun t r e h hk=>by
  have he:=MW t r e h hk
  subst he
  obtain ⟨fs,h1,h2,_,h4,h5⟩:=(FR (FS 61 _ rfl)).isInts rfl
  exact ⟨⟨fs,h1,h2,h4,h5⟩,fun x y=>⟨_,by simp only [VV,cx,PV.eqvI];rfl⟩⟩
theorem vm:Tryz.prog.follows .mixedOrders=true:=by kernel_rfl
theorem sw {A B:Out UU→Prop} (h: ∃out,A out∧B out): ∃out,B out∧A out:=by obtain ⟨o,a,b⟩:=h;exact ⟨o,b,a⟩
theorem Js {S:Type} {b:Bool} {x y:Option S} {v:S} (h:(bif b then x else y)=some v):x=some v∨y=some v:=by
 cases b
 ·exact .inr h
 ·exact .inl h
end
end Go.Proofs.YtapmagaejigpnaaGreatDoor
namespace Go.Proofs.YtapmagaejigpnaaGreatDoor
open Go PI
set_option linter.unusedVariables false
def U32 (s:Int):Prop:=0≤s∧s<4294967296
theorem U32.nat {s:Int} (h:U32 s): ∃n:Nat,n<4294967296∧s=n:=⟨s.toNat,by have:=h.1;have:=h.2;omega,by have:=h.1;omega⟩
theorem jp {n:Nat} (h:n<4294967296):(BitVec.ofInt 32 (n:Int)).toNat=n:=by
 simp
 omega
theorem jc (n:Nat) (h:n<4294967296):IntKind.wrap .u32 (n:Int)=n:=by
 simp [IntKind.wrap,IntKind.bits,IntKind.signed];omega
theorem eU (n:Nat) (h:n<18446744073709551616):IntKind.wrap .u64 (n:Int)=n:=by
 simp [IntKind.wrap,IntKind.bits,IntKind.signed];omega
theorem Gl {n:Int} (h1: -9223372036854775808≤n) (h2:n<9223372036854775808):IntKind.wrap .i64 n=n:=by
 simp [IntKind.wrap,IntKind.bits,IntKind.signed];omega
theorem oB {a b n:Nat} (h:a<2^n):a&&&b<2^n:=Nat.lt_of_le_of_lt Nat.and_le_left h
theorem g6 {a b:Nat} (ha:a<4294967296) (hb:b<4294967296):aJ .and .u32 (a:Int) (b:Int)=((a&&&b:Nat):Int):=by
 have h1:=jp ha;have h2:=jp hb
 simp only [aJ]
 show IntKind.wrap .u32 (((BitVec.ofInt 32 (a:Int))&&&(BitVec.ofInt 32 (b:Int))).toNat:Int)=_
 rw [BitVec.toNat_and,h1,h2]
 exact jc _ (oB (n:=32) ha)
theorem oD {a b:Nat} (ha:a<4294967296) (hb:b<4294967296):aJ .or .u32 (a:Int) (b:Int)=((a|||b:Nat):Int):=by
 have h1:=jp ha;have h2:=jp hb
 simp only [aJ]
 show IntKind.wrap .u32 (((BitVec.ofInt 32 (a:Int))|||(BitVec.ofInt 32 (b:Int))).toNat:Int)=_
 rw [BitVec.toNat_or,h1,h2]
 exact jc _ (Nat.or_lt_two_pow (n:=32) ha hb)
def gS (a b:Nat):Nat:=a^^^(a&&&b)
theorem lm (a b i:Nat):(gS a b).testBit i=(a.testBit i&& !b.testBit i):=by
 simp only [gS,Nat.testBit_xor,Nat.testBit_and]
 cases a.testBit i<;>cases b.testBit i<;>rfl
theorem vo {a b n:Nat} (h:a<2^n):gS a b<2^n:=Nat.xor_lt_two_pow h (oB h)
theorem tx {a b:Nat} (ha:a<4294967296) (hb:b<4294967296):aJ .andNot .u32 (a:Int) (b:Int)=((gS a b:Nat):Int):=by
 have h1:=jp ha;have h2:=jp hb
 simp only [aJ]
 show IntKind.wrap .u32 (((BitVec.ofInt 32 (a:Int))&&& ~~~(BitVec.ofInt 32 (b:Int))).toNat:Int)=_
 have e:((BitVec.ofInt 32 (a:Int))&&& ~~~(BitVec.ofInt 32 (b:Int))).toNat=gS a b:=by
  apply Nat.eq_of_testBit_eq
  intro i
  rw [lm,BitVec.toNat_and,Nat.testBit_and,h1]
  by_cases hi:i<32
  ·have:(~~~(BitVec.ofInt 32 (b:Int))).toNat.testBit i= !b.testBit i:=by
    rw [←BitVec.getLsbD,BitVec.getLsbD_not]
    rw [BitVec.getLsbD,h2];simp [hi]
   rw [this]
  ·have:a.testBit i=false:=Nat.testBit_lt_two_pow (Nat.lt_of_lt_of_le ha (by exact Nat.pow_le_pow_right (n:=2) (by decide) (show 32≤i by omega)))
   simp [this]
 rw [e]
 exact jc _ (vo (n:=32) ha)
theorem bU {α:Type} (p:Prop) [Decidable p] (x y:α):ab (decide p) x y=if p then x else y:=by
 by_cases h:p
 ·rw [decide_eq_true h,if_pos h,ag]
 ·rw [decide_eq_false h,if_neg h,ac]
theorem dZ {α:Type} (c:Bool) (x y:α):ab c x y=if c=true then x else y:=by
 cases c
 ·exact ac x y
 ·exact ag x y
abbrev Fu (k:Nat):Prop:=4294967296≤k
theorem am {R S:Type} {k:Nat} (h:Fu k) (f:(R→Option S)→Option S) (g:R→Option S):aa k f g=f g:=JC (by have:4294967296≤k:=h;omega) f g
theorem bS {S:Type} {n m:Nat} (h:n+m≤1099511627776) (f:Unit→Option S):Option.bind (aS 1099511627776 n m) f=f ():=by
 have:n+m≤1099511627776:=h
 simp [aS,this]
theorem aK {α:Type} {l p r:List α} {x:α} (h:l=p++x::r) (hl:l.length<4611686018427387904):
  decide ((p.length:Int)<(l.length:Int))=true∧ar l (p.length:Int)=some x∧IntKind.wrap .i64 ((p.length:Int)+1)=((p++[x]).length:Int)∧l=(p++[x])++r:=by
 subst h
 rw [List.length_append,List.length_cons] at hl
 refine ⟨decide_eq_true (by rw [List.length_append,List.length_cons];omega), ?_, ?_,by simp⟩
 ·simp [ar]
 ·rw [List.length_append,List.length_cons,List.length_nil]
  simp [IntKind.wrap,IntKind.bits,IntKind.signed];omega
theorem aL {α:Type} {l p:List α} (h:l=p++[]):decide ((p.length:Int)<(l.length:Int))=false:=by
 subst h
 exact decide_eq_false (by rw [List.append_nil];omega)
theorem ap {n m:Nat} (h:n<m): ∃q,m=q+1∧n≤q:=⟨m-1,by omega,by omega⟩
theorem gy {S:Type} (p:Prop) [Decidable p] (h:p) (f:Unit→Option S):Option.bind (bW p) f=f ():=by simp [bW,h]
end Go.Proofs.YtapmagaejigpnaaGreatDoor
namespace Go.Proofs.YtapmagaejigpnaaGreatDoor
open Go PI
set_option linter.unusedVariables false
set_option maxRecDepth 100000
noncomputable section
abbrev eW (S:Type):=Tm→Int→(Int→Option S)→Option S
def pc {S:Type} (hd:eW S) (k:Nat) (ret:Int→Option S) (t:Tm) (most i7:Int) (rec1:Int→Int→Option S) (rec2:Int→Int→Option S) (v5'' v8:Int):Option S:=
 Option.bind (ar t.sys i7) fun x5=>
 ab (decide ((v8:Int)<(x5.kids.length:Int))) (
 ab (decide ((v5'':Int)≤most)) (
  Option.bind (ar t.sys i7) fun x6=>
  Option.bind (ar x6.kids v8) fun x7=>
  hd (ad x7) (IntKind.wrap .i64 (most-v5'')) fun r8=>
   rec2 (IntKind.wrap .i64 (v5''+r8)) (IntKind.wrap .i64 (v8+1))) (
   rec1 v5'' (IntKind.wrap .i64 (i7+1)))) (
  rec1 v5'' (IntKind.wrap .i64 (i7+1)))
noncomputable def gP {S:Type} (hd:eW S) (k:Nat) (ret:Int→Option S) (rec1:Int→Int→Option S) (t:Tm) (most i7:Int):Nat→Int→Int→Option S
 |0=>fun _ _=> .none
 |m+1=>fun v5'' v8=>pc hd k ret t most i7 rec1 (gP hd k ret rec1 t most i7 m) v5'' v8
def mi {S:Type} (hd:eW S) (k:Nat) (ret:Int→Option S) (t:Tm) (most:Int) (J2:Int→Int→Int→Option S) (rec1:Int→Int→Option S) (v5' i7:Int):Option S:=
 ab (decide ((i7:Int)<(t.sys.length:Int))) (
 ab (decide ((v5':Int)≤most)) (
  Option.bind (ar t.sys i7) fun x3=>
  ab (decide (((x3.face.length:Int):Int)>most)) (
  ret (IntKind.wrap .i64 (most+1))) (
  Option.bind (ar t.sys i7) fun x4=>
    J2 i7 (IntKind.wrap .i64 ((IntKind.wrap .i64 (v5'+1))+(x4.face.length:Int))) 0)) (
  ret v5')) (
 ret v5')
noncomputable def fV {S:Type} (hd:eW S) (k:Nat) (ret:Int→Option S) (t:Tm) (most:Int):Nat→Int→Int→Option S
 |0=>fun _ _=> .none
 |m+1=>fun v5' i7=>mi hd k ret t most (fun i7 v5'' v8=>gP hd k ret (fV hd k ret t most m) t most i7 k v5'' v8) (fV hd k ret t most m) v5' i7
def mh {S:Type} (hd:eW S) (k:Nat) (ret:Int→Option S) (t:Tm) (most:Int) (J1:Int→Int→Option S) (rec0:Int→Int→Option S) (v5 i6:Int):Option S:=
 ab (decide ((i6:Int)<(t.kids.length:Int))) (
 ab (decide ((v5:Int)≤most)) (
  Option.bind (ar t.kids i6) fun x1=>
  hd (ad x1) (IntKind.wrap .i64 (most-v5)) fun r2=>
   rec0 (IntKind.wrap .i64 (v5+r2)) (IntKind.wrap .i64 (i6+1))) (
   J1 v5 0)) (
  J1 v5 0)
noncomputable def jL {S:Type} (hd:eW S) (k:Nat) (ret:Int→Option S) (t:Tm) (most:Int):Nat→Int→Int→Option S
 |0=>fun _ _=> .none
 |m+1=>fun v5 i6=>mh hd k ret t most (fun v5' i7=>fV hd k ret t most k v5' i7) (jL hd k ret t most m) v5 i6
def xA {S:Type} (hd:eW S) (k:Nat) (ret:Int→Option S) (J0:Int→Int→Option S) (t:Tm) (most:Int):Option S:=
 ab (decide (((t.r.length:Int):Int)>most)) (
 ret (IntKind.wrap .i64 (most+1))) (
 ab (decide (((t.name.size:Int):Int)>most)) (
  ret (IntKind.wrap .i64 (most+1))) (
   J0 (IntKind.wrap .i64 ((IntKind.wrap .i64 (1+(t.r.length:Int)))+(t.name.size:Int))) 0))
noncomputable def de {S:Type}:Nat→Tm→Int→(Int→Option S)→Option S
 |0=>fun _ _ _=> .none
 |k+1=>fun t most ret=>xA (de k) k ret (fun v5 i6=>jL (de k) k ret t most k v5 i6) t most
def Fg {S:Type} (k:Nat) (ret:Bool→Option S) (a b:Tm) (sys:List (Br Tm)):Option S:=
 de k (ad a) 150 fun r1=>
 ab (decide ((r1:Int)>150)) (
 ret true) (
 de k (ad b) 150 fun r2=>
 ab (decide ((r2:Int)>150)) (
  ret true) (
  de k (Tm.mk 0 0 ByteArray.empty [] [] sys) 150 fun r3=>
  ret (decide ((r3:Int)>150))))
noncomputable def pY {S:Type} (k:Nat) (a b:Tm) (sys:List (Br Tm)) (ret:Bool→Option S):Option S:=Fg k ret a b sys
def FA {S:Type} (k:Nat) (ret:Int×Int→Option S) (kind kid:Int):Option S:=
 ab (kind==4) (
 ab (kid==1) (
  ret (1,0)) (
  ret (0,0))) (
 ab (kind==7) (
  ab (kid==1) (
  ret (1,0)) (
  ret (0,0))) (
  ab (kind==5) (
  ab (kid==0) (
   ret (1,0)) (
   ret (0,0))) (
  ab (kind==22) (
   ab (kid==0) (
   ret (1,0)) (
   ret (0,0))) (
   ab (kind==27) (
   ab (kid==0) (
    ret (1,0)) (
    ret (0,0))) (
   ab (kind==11) (
    ab (kid==0) (
    ret (0,1)) (
    ret (0,0))) (
    ab (kind==12) (
    ab (kid==0) (
     ret (0,1)) (
     ret (0,0))) (
    ab (kind==14) (
     ab (kid==0) (
     ret (0,1)) (
     ret (0,0))) (
     ret (0,0)))))))))
noncomputable def ic {S:Type} (k:Nat) (kind kid:Int) (ret:Int×Int→Option S):Option S:=FA k ret kind kid
abbrev cu (S:Type):=Tm→Int→(Bool→Option S)→Option S
noncomputable def xN {S:Type} (hd:cu S) (k:Nat) (ret:Bool→Option S) (a_k:Tm) (p p' c0:Int):Option S:=
 hd (ad a_k) (IntKind.wrap .i64 (c0-1)) fun r1=>
 ret r1
noncomputable def mT {S:Type} (hd:cu S) (k:Nat) (a_k:Tm) (p p' c0:Int) (ret:Bool→Option S):Option S:=xN hd k ret a_k p p' c0
def pk {S:Type} (hd:cu S) (k:Nat) (ret:Bool→Option S) (c0:Int) (t:Tm) (v42:Int) (x4:(Br Tm)) (more9:Int) (rec1:Int→Int→Option S) (rec2:Int→Option S) (v49:Int):Option S:=
 ab (decide ((v49:Int)<(x4.kids.length:Int))) (
 Option.bind (ar x4.kids v49) fun x5=>
 aa k (mT hd k (ad x5) 0 more9 c0) fun r6=>
 ab (!r6) (
  ret false) (
   rec2 (IntKind.wrap .i64 (v49+1)))) (
  rec1 (IntKind.wrap .i64 (v42+1)) more9)
noncomputable def iL {S:Type} (hd:cu S) (k:Nat) (ret:Bool→Option S) (rec1:Int→Int→Option S) (c0:Int) (t:Tm) (v42:Int) (x4:(Br Tm)) (more9:Int):Nat→Int→Option S
 |0=>fun _=> .none
 |m+1=>fun v49=>pk hd k ret c0 t v42 x4 more9 rec1 (iL hd k ret rec1 c0 t v42 x4 more9 m) v49
def mq {S:Type} (hd:cu S) (k:Nat) (ret:Bool→Option S) (c0:Int) (t:Tm) (J2:Int→(Br Tm)→Int→Int→Option S) (rec1:Int→Int→Option S) (v42 more9:Int):Option S:=
 ab (decide ((v42:Int)<(t.sys.length:Int))) (
 Option.bind (ar t.sys v42) fun x4=>
  J2 v42 x4 more9 0) (
 ret true)
noncomputable def fh {S:Type} (hd:cu S) (k:Nat) (ret:Bool→Option S) (c0:Int) (t:Tm):Nat→Int→Int→Option S
 |0=>fun _ _=> .none
 |m+1=>fun v42 more9=>mq hd k ret c0 t (fun v42 x4 more9 v49=>iL hd k ret (fh hd k ret c0 t m) c0 t v42 x4 more9 k v49) (fh hd k ret c0 t m) v42 more9
def mo {S:Type} (hd:cu S) (k:Nat) (ret:Bool→Option S) (c0:Int) (t:Tm) (J1:Int→Int→Option S) (rec0:Int→Option S) (v17:Int):Option S:=
 ab (decide ((v17:Int)<(t.kids.length:Int))) (
 Option.bind (ar t.kids v17) fun x1=>
 aa k (ic k t.kind v17) fun r2=>
 aa k (mT hd k (ad x1) r2.1 r2.2 c0) fun r3=>
 ab (!r3) (
  ret false) (
   rec0 (IntKind.wrap .i64 (v17+1)))) (
 ab (t.kind==15) (
   J1 0 1) (
   J1 0 0))
noncomputable def lb {S:Type} (hd:cu S) (k:Nat) (ret:Bool→Option S) (c0:Int) (t:Tm):Nat→Int→Option S
 |0=>fun _=> .none
 |m+1=>fun v17=>mo hd k ret c0 t (fun v42 more9=>fh hd k ret c0 t k v42 more9) (lb hd k ret c0 t m) v17
noncomputable def xK {S:Type} (hd:cu S) (k:Nat) (ret:Bool→Option S) (J0:Int→Option S) (t:Tm) (c0:Int):Option S:=
 J0 0
noncomputable def ug {S:Type} (hd:cu S) (k:Nat) (t:Tm) (c0:Int) (ret:Bool→Option S):Option S:=xK hd k ret (fun v17=>lb hd k ret c0 t k v17) t c0
def FG {S:Type} (hd:cu S) (k:Nat) (ret:Bool→Option S) (t:Tm) (left:Int):Option S:=
 ab (decide ((left:Int)>0)) (
 aa k (ug hd k (ad t) left) fun r1=>
 ret r1) (
 ret false)
noncomputable def fQ {S:Type}:Nat→Tm→Int→(Bool→Option S)→Option S
 |0=>fun _ _ _=> .none
 |k+1=>fun t left ret=>FG (fQ k) k ret t left
abbrev ct (S:Type):=Tm→Int→(Bool×Int→Option S)→Option S
def xP {S:Type} (hd:ct S) (k:Nat) (ret:Bool×Int→Option S) (t:Tm) (c0:Int):Option S:=
 ab (decide ((IntKind.wrap .i64 (c0-1):Int)≥0)) (
 hd (ad t) (IntKind.wrap .i64 (c0-1)) fun r1=>
 ret (r1.1,r1.2)) (
 ret (false,IntKind.wrap .i64 (c0-1)))
noncomputable def kx {S:Type} (hd:ct S) (k:Nat) (t:Tm) (c0:Int) (ret:Bool×Int→Option S):Option S:=xP hd k ret t c0
noncomputable def xO {S:Type} (hd:ct S) (k:Nat) (ret:Bool×Int→Option S) (a_k:Tm) (p p' c1:Int):Option S:=
 aa k (kx hd k (ad a_k) c1) fun r1=>
 ret (r1.1,r1.2)
noncomputable def mV {S:Type} (hd:ct S) (k:Nat) (a_k:Tm) (p p' c1:Int) (ret:Bool×Int→Option S):Option S:=xO hd k ret a_k p p' c1
def pi {S:Type} (hd:ct S) (k:Nat) (ret:Bool×Int→Option S) (t:Tm) (v42:Int) (x4:(Br Tm)) (more9:Int) (rec1:Int→Int→Int→Option S) (rec2:Int→Int→Option S) (e1_0'' v49:Int):Option S:=
 ab (decide ((v49:Int)<(x4.kids.length:Int))) (
 Option.bind (ar x4.kids v49) fun x5=>
 aa k (mV hd k (ad x5) 0 more9 e1_0'') fun r6=>
 ab (!r6.1) (
  ret (false,r6.2)) (
   rec2 r6.2 (IntKind.wrap .i64 (v49+1)))) (
  rec1 e1_0'' (IntKind.wrap .i64 (v42+1)) more9)
noncomputable def ff {S:Type} (hd:ct S) (k:Nat) (ret:Bool×Int→Option S) (rec1:Int→Int→Int→Option S) (t:Tm) (v42:Int) (x4:(Br Tm)) (more9:Int):Nat→Int→Int→Option S
 |0=>fun _ _=> .none
 |m+1=>fun e1_0'' v49=>pi hd k ret t v42 x4 more9 rec1 (ff hd k ret rec1 t v42 x4 more9 m) e1_0'' v49
def ml {S:Type} (hd:ct S) (k:Nat) (ret:Bool×Int→Option S) (t:Tm) (J2:Int→(Br Tm)→Int→Int→Int→Option S) (rec1:Int→Int→Int→Option S) (e1_0' v42 more9:Int):Option S:=
 ab (decide ((v42:Int)<(t.sys.length:Int))) (
 Option.bind (ar t.sys v42) fun x4=>
  J2 v42 x4 more9 e1_0' 0) (
 ret (true,e1_0'))
noncomputable def ej {S:Type} (hd:ct S) (k:Nat) (ret:Bool×Int→Option S) (t:Tm):Nat→Int→Int→Int→Option S
 |0=>fun _ _ _=> .none
 |m+1=>fun e1_0' v42 more9=>ml hd k ret t (fun v42 x4 more9 e1_0'' v49=>ff hd k ret (ej hd k ret t m) t v42 x4 more9 k e1_0'' v49) (ej hd k ret t m) e1_0' v42 more9
def mj {S:Type} (hd:ct S) (k:Nat) (ret:Bool×Int→Option S) (t:Tm) (J1:Int→Int→Int→Option S) (rec0:Int→Int→Option S) (e1_0 v17:Int):Option S:=
 ab (decide ((v17:Int)<(t.kids.length:Int))) (
 Option.bind (ar t.kids v17) fun x1=>
 aa k (ic k t.kind v17) fun r2=>
 aa k (mV hd k (ad x1) r2.1 r2.2 e1_0) fun r3=>
 ab (!r3.1) (
  ret (false,r3.2)) (
   rec0 r3.2 (IntKind.wrap .i64 (v17+1)))) (
 ab (t.kind==15) (
   J1 e1_0 0 1) (
   J1 e1_0 0 0))
noncomputable def jN {S:Type} (hd:ct S) (k:Nat) (ret:Bool×Int→Option S) (t:Tm):Nat→Int→Int→Option S
 |0=>fun _ _=> .none
 |m+1=>fun e1_0 v17=>mj hd k ret t (fun e1_0' v42 more9=>ej hd k ret t k e1_0' v42 more9) (jN hd k ret t m) e1_0 v17
noncomputable def xH {S:Type} (hd:ct S) (k:Nat) (ret:Bool×Int→Option S) (J0:Int→Int→Option S) (t:Tm) (c1:Int):Option S:=
 J0 c1 0
noncomputable def dP {S:Type}:Nat→Tm→Int→(Bool×Int→Option S)→Option S
 |0=>fun _ _ _=> .none
 |k+1=>fun t c1 ret=>xH (dP k) k ret (fun e1_0 v17=>jN (dP k) k ret t k e1_0 v17) t c1
noncomputable def FI {S:Type} (k:Nat) (ret:Bool→Option S) (t:Tm) (most:Int):Option S:=
 aa k (kx (dP k) k (ad t) most) fun r1=>
 ret r1.1
noncomputable def qb {S:Type} (k:Nat) (t:Tm) (most:Int) (ret:Bool→Option S):Option S:=FI k ret t most
def FH {S:Type} (k:Nat) (ret:Int→Option S) (t:Tm):Option S:=
 fQ k (ad t) 200 fun r1=>
 ab (!r1) (
 ret 62) (
 aa k (qb k (ad t) 20000) fun r2=>
 ab (!r2) (
  ret 221) (
  ret 0))
noncomputable def mU {S:Type} (k:Nat) (t:Tm) (ret:Int→Option S):Option S:=FH k ret t
def FC {S:Type} (k:Nat) (ret:Int→Option S) (kind:Int):Option S:=
 ab (kind==1) (
 ret 0) (
 ab (kind==2) (
  ret 0) (
  ab (kind==3) (
  ret 0) (
  ab (kind==19) (
   ret 0) (
   ab (kind==20) (
   ret 0) (
   ab (kind==24) (
    ret 0) (
    ab (kind==25) (
    ret 0) (
    ab (kind==21) (
     ret 0) (
     ab (kind==5) (
     ret 1) (
     ab (kind==9) (
      ret 1) (
      ab (kind==10) (
      ret 1) (
      ab (kind==23) (
       ret 1) (
       ab (kind==12) (
       ret 1) (
       ab (kind==16) (
        ret 1) (
        ab (kind==17) (
        ret 1) (
        ab (kind==18) (
         ret 1) (
         ab (kind==26) (
         ret 1) (
         ab (kind==4) (
          ret 2) (
          ab (kind==7) (
          ret 2) (
          ab (kind==6) (
           ret 2) (
           ab (kind==8) (
           ret 2) (
           ab (kind==14) (
            ret 2) (
            ab (kind==15) (
            ret 2) (
            ab (kind==28) (
             ret 2) (
             ab (kind==11) (
             ret 3) (
             ab (kind==13) (
              ret 3) (
              ab (kind==22) (
              ret 4) (
              ab (kind==27) (
               ret 5) (
               ret (-1)))))))))))))))))))))))))))))
noncomputable def p8 {S:Type} (k:Nat) (kind:Int) (ret:Int→Option S):Option S:=FC k ret kind
def FD {S:Type} (k:Nat) (ret:Int→Option S) (kind:Int):Option S:=
 ab (kind==15) (
 ret 1) (
 ab (kind==17) (
  ret 1) (
  ab (kind==18) (
  ret 1) (
  ab (kind==16) (
   ret 2) (
   ret 0))))
noncomputable def ig {S:Type} (k:Nat) (kind:Int) (ret:Int→Option S):Option S:=FD k ret kind
def tA {S:Type} (k:Nat) (ret:Bool→Option S) (s:ByteArray) (v8:Int) (x1:UInt8) (rec0:Int→Option S) (letter5:Bool):Option S:=
 ab (!letter5) (
 ab (v8==0) (
  ret false) (
  ab (decide (((x1.toNat:Int):Int)<48)) (
  ret false) (
  ab (decide (((x1.toNat:Int):Int)>57)) (
   ret false) (
     rec0 (IntKind.wrap .i64 (v8+1)))))) (
  rec0 (IntKind.wrap .i64 (v8+1)))
noncomputable def qQ {S:Type} (k:Nat) (ret:Bool→Option S) (rec0:Int→Option S) (s:ByteArray) (v8:Int) (x1:UInt8):Nat→Bool→Option S
 |0=>fun _=> .none
 |_+1=>fun letter5=>tA k ret s v8 x1 rec0 letter5
def mt {S:Type} (k:Nat) (ret:Bool→Option S) (s:ByteArray) (J1:Int→UInt8→Bool→Option S) (rec0:Int→Option S) (v8:Int):Option S:=
 ab (decide ((v8:Int)<(s.size:Int))) (
 Option.bind (ar s.data.toList v8) fun x1=>
 ab (decide (((x1.toNat:Int):Int)≥97)) (
  ab (decide (((x1.toNat:Int):Int)≤122)) (
    J1 v8 x1 true) (
  ab (decide (((x1.toNat:Int):Int)≥65)) (
   ab (decide (((x1.toNat:Int):Int)≤90)) (
      J1 v8 x1 true) (
      J1 v8 x1 ((x1.toNat:Int)==95))) (
     J1 v8 x1 ((x1.toNat:Int)==95)))) (
  ab (decide (((x1.toNat:Int):Int)≥65)) (
  ab (decide (((x1.toNat:Int):Int)≤90)) (
     J1 v8 x1 true) (
     J1 v8 x1 ((x1.toNat:Int)==95))) (
    J1 v8 x1 ((x1.toNat:Int)==95)))) (
 ret (!(s==ByteArray.empty)))
noncomputable def jP {S:Type} (k:Nat) (ret:Bool→Option S) (s:ByteArray):Nat→Int→Option S
 |0=>fun _=> .none
 |m+1=>fun v8=>mt k ret s (fun v8 x1 letter5=>qQ k ret (jP k ret s m) s v8 x1 k letter5) (jP k ret s m) v8
noncomputable def xL {S:Type} (k:Nat) (ret:Bool→Option S) (J0:Int→Option S) (s:ByteArray):Option S:=
 J0 0
noncomputable def p_ {S:Type} (k:Nat) (s:ByteArray) (ret:Bool→Option S):Option S:=xL k ret (fun v8=>jP k ret s k v8) s
noncomputable def Fr {S:Type} (k:Nat) (ret:Bool→Option S) (s:Int):Option S:=
 ret ((aJ .andNot .u32 s 16777215)==0)
noncomputable def ku {S:Type} (k:Nat) (s:Int) (ret:Bool→Option S):Option S:=Fr k ret s
def EI {S:Type} (k:Nat) (ret:Bool→Option S) (c:Cl):Option S:=
 aa k (ku k c.pos) fun r1=>
 ab (r1) (
 aa k (ku k c.neg) fun r2=>
 ret r2) (
 ret false)
noncomputable def mH {S:Type} (k:Nat) (c:Cl) (ret:Bool→Option S):Option S:=EI k ret c
noncomputable def EH {S:Type} (k:Nat) (ret:Cl→Option S) (a b:Cl):Option S:=
 ret (Cl.mk (aJ .or .u32 a.pos b.pos) (aJ .or .u32 a.neg b.neg))
noncomputable def kj {S:Type} (k:Nat) (a b:Cl) (ret:Cl→Option S):Option S:=EH k ret a b
noncomputable def EC {S:Type} (k:Nat) (ret:Bool→Option S) (a b:Cl):Option S:=
 aa k (kj k a b) fun r1=>
 ret ((r1.pos==a.pos)&&((r1.neg==a.neg)&&true))
noncomputable def pA {S:Type} (k:Nat) (a b:Cl) (ret:Bool→Option S):Option S:=EC k ret a b
def EF {S:Type} (k:Nat) (ret:Bool→Option S) (d c0:Cl):Option S:=
 ab (!((c0.pos==d.pos)&&((c0.neg==d.neg)&&true))) (
 aa k (pA k c0 d) fun r1=>
 ret r1) (
 ret false)
noncomputable def pC {S:Type} (k:Nat) (d c0:Cl) (ret:Bool→Option S):Option S:=EF k ret d c0
def pg {S:Type} (k:Nat) (ret:Int→Option S) (c0:Cl) (s:List Cl) (rec0:Int→Option S) (v8:Int):Option S:=
 ab (decide ((v8:Int)<(s.length:Int))) (
 Option.bind (ar s v8) fun x1=>
 aa k (pC k x1 c0) fun r2=>
 ab (r2) (
  ret v8) (
   rec0 (IntKind.wrap .i64 (v8+1)))) (
 ret (-1))
noncomputable def k_ {S:Type} (k:Nat) (ret:Int→Option S) (c0:Cl) (s:List Cl):Nat→Int→Option S
 |0=>fun _=> .none
 |m+1=>fun v8=>pg k ret c0 s (k_ k ret c0 s m) v8
noncomputable def xF {S:Type} (k:Nat) (ret:Int→Option S) (J0:Int→Option S) (s:List Cl) (c0:Cl):Option S:=
 J0 0
noncomputable def ue {S:Type} (k:Nat) (s:List Cl) (c0:Cl) (ret:Int→Option S):Option S:=xF k ret (fun v8=>k_ k ret c0 s k v8) s c0
noncomputable def Fy {S:Type} (k:Nat) (ret:Bool→Option S) (s:List Cl) (c0:Cl):Option S:=
 aa k (ue k s c0) fun r1=>
 ret (decide ((r1:Int)≥0))
noncomputable def ub {S:Type} (k:Nat) (s:List Cl) (c0:Cl) (ret:Bool→Option S):Option S:=Fy k ret s c0
noncomputable def EE {S:Type} (k:Nat) (ret:Bool→Option S) (c:Cl) (c0:List Cl):Option S:=
 aa k (ub k c0 c) fun r1=>
 ret r1
noncomputable def pB {S:Type} (k:Nat) (c:Cl) (c0:List Cl) (ret:Bool→Option S):Option S:=EE k ret c c0
def oF {S:Type} (k:Nat) (ret:List Cl×Int→Option S) (b5_0:List Cl) (rec1:Int→(List Cl)→Option S) (v36:Int) (kept9:List Cl):Option S:=
 ab (decide ((v36:Int)<(b5_0.length:Int))) (
 Option.bind (ar b5_0 v36) fun x4=>
 aa k (pB k x4 b5_0) fun r5=>
 ab (!r5) (
  Option.bind (aS 1099511627776 kept9.length [x4].length) fun x6=>
   rec1 (IntKind.wrap .i64 (v36+1)) (kept9++[x4])) (
   rec1 (IntKind.wrap .i64 (v36+1)) kept9)) (
 ab (decide (((kept9.length:Int):Int)>64)) (
  ret (([]:List Cl),3)) (
  ret (sortCl kept9,0)))
noncomputable def jF {S:Type} (k:Nat) (ret:List Cl×Int→Option S) (b5_0:List Cl):Nat→Int→(List Cl)→Option S
 |0=>fun _ _=> .none
 |m+1=>fun v36 kept9=>oF k ret b5_0 (jF k ret b5_0 m) v36 kept9
def l9 {S:Type} (k:Nat) (ret:List Cl×Int→Option S) (l:List Cl) (J1:(List Cl)→Int→(List Cl)→Option S) (rec0:(List (Cl×Bool))→(List Cl)→Int→Option S) (b12_0:List (Cl×Bool)) (b5_0:List Cl) (v15:Int):Option S:=
 ab (decide ((v15:Int)<(l.length:Int))) (
 Option.bind (ar l v15) fun x1=>
 aa k (mH k x1) fun r2=>
 ab (!r2) (
  ret (([]:List Cl),2)) (
  ab (!((cM VV ET.C b12_0 x1).getD false)) (
  Option.bind (aS 1099511627776 b5_0.length [x1].length) fun x3=>
    rec0 (dW VV ET.C b12_0 x1 true) (b5_0++[x1]) (IntKind.wrap .i64 (v15+1))) (
    rec0 b12_0 b5_0 (IntKind.wrap .i64 (v15+1))))) (
  J1 b5_0 0 ([]:List Cl))
noncomputable def kI {S:Type} (k:Nat) (ret:List Cl×Int→Option S) (l:List Cl):Nat→(List (Cl×Bool))→(List Cl)→Int→Option S
 |0=>fun _ _ _=> .none
 |m+1=>fun b12_0 b5_0 v15=>l9 k ret l (fun b5_0 v36 kept9=>jF k ret b5_0 k v36 kept9) (kI k ret l m) b12_0 b5_0 v15
noncomputable def wV {S:Type} (k:Nat) (ret:List Cl×Int→Option S) (J0:(List (Cl×Bool))→(List Cl)→Int→Option S) (l:List Cl):Option S:=
 J0 ([]:List (Cl×Bool)) ([]:List Cl) 0
noncomputable def eL {S:Type} (k:Nat) (l:List Cl) (ret:List Cl×Int→Option S):Option S:=wV k ret (fun b12_0 b5_0 v15=>kI k ret l k b12_0 b5_0 v15) l
def pf {S:Type} (k:Nat) (ret:Bool→Option S) (s1 s2:List Cl) (rec0:Int→Option S) (v13:Int):Option S:=
 ab (decide ((v13:Int)<(s1.length:Int))) (
 Option.bind (ar s1 v13) fun x1=>
 Option.bind (ar s2 v13) fun x2=>
 ab (!((x1.pos==x2.pos)&&((x1.neg==x2.neg)&&true))) (
  ret false) (
   rec0 (IntKind.wrap .i64 (v13+1)))) (
 ret true)
noncomputable def kZ {S:Type} (k:Nat) (ret:Bool→Option S) (s1 s2:List Cl):Nat→Int→Option S
 |0=>fun _=> .none
 |m+1=>fun v13=>pf k ret s1 s2 (kZ k ret s1 s2 m) v13
def xE {S:Type} (k:Nat) (ret:Bool→Option S) (J0:Int→Option S) (s1 s2:List Cl):Option S:=
 ab (!((s1.length:Int)==(s2.length:Int))) (
 ret false) (
  J0 0)
noncomputable def p7 {S:Type} (k:Nat) (s1 s2:List Cl) (ret:Bool→Option S):Option S:=xE k ret (fun v13=>kZ k ret s1 s2 k v13) s1 s2
def Fa {S:Type} (k:Nat) (ret:Bool→Option S) (f:List Cl):Option S:=
 aa k (eL k f) fun r1=>
 ab (r1.2==0) (
 aa k (p7 k r1.1 f) fun r2=>
 ret r2) (
 ret false)
noncomputable def eY {S:Type} (k:Nat) (f:List Cl) (ret:Bool→Option S):Option S:=Fa k ret f
def Fw {S:Type} (k:Nat) (ret:Bool→Option S) (i:Int):Option S:=
 ab (decide ((i:Int)≥0)) (
 ret (decide ((i:Int)<24))) (
 ret false)
noncomputable def jx {S:Type} (k:Nat) (i:Int) (ret:Bool→Option S):Option S:=Fw k ret i
def Ft {S:Type} (k:Nat) (ret:Int→Option S) (s i:Int):Option S:=
 aa k (jx k i) fun r1=>
 ab (!r1) (
 ret (aJ .and .u32 s 16777215)) (
 Option.bind (bW (0≤(IntKind.wrap .u64 i))) fun x2=>
 ret (aJ .andNot .u32 (aJ .and .u32 s 16777215) (IntKind.wrap .u32 (1*2^min (Int.toNat (IntKind.wrap .u64 i)) 32))))
noncomputable def gD {S:Type} (k:Nat) (s i:Int) (ret:Int→Option S):Option S:=Ft k ret s i
def oS {S:Type} (k:Nat) (ret:Int→Option S) (f:List Cl) (rec0:Int→Int→Option S) (s3 v8:Int):Option S:=
 ab (decide ((v8:Int)<(f.length:Int))) (
 Option.bind (ar f v8) fun x1=>
  rec0 (aJ .or .u32 s3 (aJ .or .u32 x1.pos x1.neg)) (IntKind.wrap .i64 (v8+1))) (
 aa k (gD k s3 (-1)) fun r2=>
 ret r2)
noncomputable def kP {S:Type} (k:Nat) (ret:Int→Option S) (f:List Cl):Nat→Int→Int→Option S
 |0=>fun _ _=> .none
 |m+1=>fun s3 v8=>oS k ret f (kP k ret f m) s3 v8
noncomputable def xh {S:Type} (k:Nat) (ret:Int→Option S) (J0:Int→Int→Option S) (f:List Cl):Option S:=
 J0 0 0
noncomputable def kn {S:Type} (k:Nat) (f:List Cl) (ret:Int→Option S):Option S:=xh k ret (fun s3 v8=>kP k ret f k s3 v8) f
def FJ {S:Type} (k:Nat) (ret:Bool→Option S) (f:List Cl) (dims:Int):Option S:=
 ab (decide ((dims:Int)≥24)) (
 ret true) (
 aa k (kn k f) fun r1=>
 Option.bind (bW (0≤(IntKind.wrap .u64 dims))) fun x2=>
 ret ((Int.fdiv r1 (2^min (Int.toNat (IntKind.wrap .u64 dims)) 32))==0))
noncomputable def ij {S:Type} (k:Nat) (f:List Cl) (dims:Int) (ret:Bool→Option S):Option S:=FJ k ret f dims
noncomputable def ED {S:Type} (k:Nat) (ret:Bool→Option S) (c:Cl):Option S:=
 ret (!((aJ .and .u32 c.pos c.neg)==0))
noncomputable def mG {S:Type} (k:Nat) (c:Cl) (ret:Bool→Option S):Option S:=ED k ret c
def ph {S:Type} (k:Nat) (ret:Int→Option S) (s:List Cl) (rec0:Int→Option S) (v8:Int):Option S:=
 ab (decide ((v8:Int)<(s.length:Int))) (
 Option.bind (ar s v8) fun x1=>
 aa k (mG k x1) fun r2=>
 ab (r2) (
  ret v8) (
   rec0 (IntKind.wrap .i64 (v8+1)))) (
 ret (-1))
noncomputable def la {S:Type} (k:Nat) (ret:Int→Option S) (s:List Cl):Nat→Int→Option S
 |0=>fun _=> .none
 |m+1=>fun v8=>ph k ret s (la k ret s m) v8
noncomputable def xG {S:Type} (k:Nat) (ret:Int→Option S) (J0:Int→Option S) (s:List Cl):Option S:=
 J0 0
noncomputable def uf {S:Type} (k:Nat) (s:List Cl) (ret:Int→Option S):Option S:=xG k ret (fun v8=>la k ret s k v8) s
noncomputable def Fz {S:Type} (k:Nat) (ret:Bool→Option S) (s:List Cl):Option S:=
 aa k (uf k s) fun r1=>
 ret (decide ((r1:Int)≥0))
noncomputable def uc {S:Type} (k:Nat) (s:List Cl) (ret:Bool→Option S):Option S:=Fz k ret s
def E0 {S:Type} (k:Nat) (ret:Bool→Option S) (f:List Cl):Option S:=
 aa k (eY k f) fun r1=>
 ab (r1) (
 aa k (uc k f) fun r2=>
 ret (!r2)) (
 ret false)
noncomputable def hY {S:Type} (k:Nat) (f:List Cl) (ret:Bool→Option S):Option S:=E0 k ret f
def pm {S:Type} (k:Nat) (ret:Bool→Option S) (t:Tm) (dims:Int) (rec1:Int→Option S) (v109:Int):Option S:=
 ab (decide ((v109:Int)<(t.sys.length:Int))) (
 Option.bind (ar t.sys v109) fun x12=>
 aa k (ig k t.kind) fun r13=>
 ab (!((x12.kids.length:Int)==r13)) (
  ret false) (
  aa k (hY k x12.face) fun r14=>
  ab (!r14) (
  ret false) (
  aa k (ij k x12.face dims) fun r15=>
  ab (!r15) (
   ret false) (
     rec1 (IntKind.wrap .i64 (v109+1)))))) (
 ret ((t.r.length:Int)==0))
noncomputable def gQ {S:Type} (k:Nat) (ret:Bool→Option S) (t:Tm) (dims:Int):Nat→Int→Option S
 |0=>fun _=> .none
 |m+1=>fun v109=>pm k ret t dims (gQ k ret t dims m) v109
def mu {S:Type} (k:Nat) (ret:Bool→Option S) (t:Tm) (vars dims:Int) (J1:Int→Option S):Option S:=
 ab (t.kind==1) (
 ab ((t.r.length:Int)==0) (
  ab (decide ((t.n:Int)≥0)) (
  ab (decide ((vars:Int)<0)) (
   ret true) (
   ret (decide ((t.n:Int)<vars)))) (
  ret false)) (
  ret false)) (
 ab (t.kind==2) (
  ab ((t.r.length:Int)==0) (
  aa k (p_ k t.name) fun r3=>
  ret r3) (
  ret false)) (
  ab (t.kind==13) (
  aa k (eY k t.r) fun r4=>
  ab (r4) (
   aa k (ij k t.r dims) fun r5=>
   ret r5) (
   ret false)) (
  ab (t.kind==21) (
   aa k (eY k t.r) fun r6=>
   ab (r6) (
   aa k (ij k t.r dims) fun r7=>
   ret r7) (
   ret false)) (
   ab (t.kind==26) (
   aa k (eY k t.r) fun r8=>
   ab (r8) (
    aa k (ij k t.r dims) fun r9=>
    ret r9) (
    ret false)) (
   ab (t.kind==14) (
    aa k (hY k t.r) fun r10=>
    ab (r10) (
    aa k (ij k t.r dims) fun r11=>
    ret r11) (
    ret false)) (
       J1 0))))))
noncomputable def qR {S:Type} (k:Nat) (ret:Bool→Option S) (t:Tm) (vars dims:Int):Nat→Option S
 |0=> .none
 |_+1=>mu k ret t vars dims (fun v109=>gQ k ret t dims k v109)
def xM {S:Type} (k:Nat) (ret:Bool→Option S) (J0:Option S) (t:Tm) (vars dims:Int):Option S:=
 aa k (p8 k t.kind) fun r1=>
 ab (!(r1==(t.kids.length:Int))) (
 ret false) (
 ab (!(t.kind==1)) (
  ab (!(t.n==0)) (
  ret false) (
  ab (!(t.kind==2)) (
   ab (!(t.name==ByteArray.empty)) (
   ret false) (
   aa k (ig k t.kind) fun r2=>
   ab (r2==0) (
    ab (decide (((t.sys.length:Int):Int)>0)) (
    ret false) (
        J0)) (
       J0))) (
   aa k (ig k t.kind) fun r16=>
   ab (r16==0) (
   ab (decide (((t.sys.length:Int):Int)>0)) (
    ret false) (
       J0)) (
      J0)))) (
  ab (!(t.kind==2)) (
  ab (!(t.name==ByteArray.empty)) (
   ret false) (
   aa k (ig k t.kind) fun r17=>
   ab (r17==0) (
   ab (decide (((t.sys.length:Int):Int)>0)) (
    ret false) (
       J0)) (
      J0))) (
  aa k (ig k t.kind) fun r18=>
  ab (r18==0) (
   ab (decide (((t.sys.length:Int):Int)>0)) (
   ret false) (
      J0)) (
     J0))))
noncomputable def mS {S:Type} (k:Nat) (t:Tm) (vars dims:Int) (ret:Bool→Option S):Option S:=xM k ret (qR k ret t vars dims k) t vars dims
abbrev cr (S:Type):=Tm→Int→Int→Bool→(Bool→Option S)→Option S
def FF {S:Type} (hd:cr S) (k:Nat) (ret:Bool→Option S) (a_k:Tm) (v d c0 c1:Int) (c2:Bool):Option S:=
 ab (decide ((c0:Int)<0)) (
 hd (ad a_k) (IntKind.wrap .i64 (c0+0)) (IntKind.wrap .i64 (c1+d)) c2 fun r1=>
 ret r1) (
 hd (ad a_k) (IntKind.wrap .i64 (c0+v)) (IntKind.wrap .i64 (c1+d)) c2 fun r2=>
 ret r2)
noncomputable def mR {S:Type} (hd:cr S) (k:Nat) (a_k:Tm) (v d c0 c1:Int) (c2:Bool) (ret:Bool→Option S):Option S:=FF hd k ret a_k v d c0 c1 c2
def pj {S:Type} (hd:cr S) (k:Nat) (ret:Bool→Option S) (c0 c1:Int) (c2:Bool) (t:Tm) (v42:Int) (x4:(Br Tm)) (more9:Int) (rec1:Int→Int→Option S) (rec2:Int→Option S) (v49:Int):Option S:=
 ab (decide ((v49:Int)<(x4.kids.length:Int))) (
 Option.bind (ar x4.kids v49) fun x5=>
 aa k (mR hd k (ad x5) 0 more9 c0 c1 c2) fun r6=>
 ab (!r6) (
  ret false) (
   rec2 (IntKind.wrap .i64 (v49+1)))) (
  rec1 (IntKind.wrap .i64 (v42+1)) more9)
noncomputable def iJ {S:Type} (hd:cr S) (k:Nat) (ret:Bool→Option S) (rec1:Int→Int→Option S) (c0 c1:Int) (c2:Bool) (t:Tm) (v42:Int) (x4:(Br Tm)) (more9:Int):Nat→Int→Option S
 |0=>fun _=> .none
 |m+1=>fun v49=>pj hd k ret c0 c1 c2 t v42 x4 more9 rec1 (iJ hd k ret rec1 c0 c1 c2 t v42 x4 more9 m) v49
def mn {S:Type} (hd:cr S) (k:Nat) (ret:Bool→Option S) (c0 c1:Int) (c2:Bool) (t:Tm) (J2:Int→(Br Tm)→Int→Int→Option S) (rec1:Int→Int→Option S) (v42 more9:Int):Option S:=
 ab (decide ((v42:Int)<(t.sys.length:Int))) (
 Option.bind (ar t.sys v42) fun x4=>
  J2 v42 x4 more9 0) (
 ret true)
noncomputable def fg {S:Type} (hd:cr S) (k:Nat) (ret:Bool→Option S) (c0 c1:Int) (c2:Bool) (t:Tm):Nat→Int→Int→Option S
 |0=>fun _ _=> .none
 |m+1=>fun v42 more9=>mn hd k ret c0 c1 c2 t (fun v42 x4 more9 v49=>iJ hd k ret (fg hd k ret c0 c1 c2 t m) c0 c1 c2 t v42 x4 more9 k v49) (fg hd k ret c0 c1 c2 t m) v42 more9
def mm {S:Type} (hd:cr S) (k:Nat) (ret:Bool→Option S) (c0 c1:Int) (c2:Bool) (t:Tm) (J1:Int→Int→Option S) (rec0:Int→Option S) (v17:Int):Option S:=
 ab (decide ((v17:Int)<(t.kids.length:Int))) (
 Option.bind (ar t.kids v17) fun x1=>
 aa k (ic k t.kind v17) fun r2=>
 aa k (mR hd k (ad x1) r2.1 r2.2 c0 c1 c2) fun r3=>
 ab (!r3) (
  ret false) (
   rec0 (IntKind.wrap .i64 (v17+1)))) (
 ab (t.kind==15) (
   J1 0 1) (
   J1 0 0))
noncomputable def jO {S:Type} (hd:cr S) (k:Nat) (ret:Bool→Option S) (c0 c1:Int) (c2:Bool) (t:Tm):Nat→Int→Option S
 |0=>fun _=> .none
 |m+1=>fun v17=>mm hd k ret c0 c1 c2 t (fun v42 more9=>fg hd k ret c0 c1 c2 t k v42 more9) (jO hd k ret c0 c1 c2 t m) v17
noncomputable def xJ {S:Type} (hd:cr S) (k:Nat) (ret:Bool→Option S) (J0:Int→Option S) (t:Tm) (c0 c1:Int) (c2:Bool):Option S:=
 J0 0
noncomputable def p9 {S:Type} (hd:cr S) (k:Nat) (t:Tm) (c0 c1:Int) (c2:Bool) (ret:Bool→Option S):Option S:=xJ hd k ret (fun v17=>jO hd k ret c0 c1 c2 t k v17) t c0 c1 c2
def FE {S:Type} (hd:cr S) (k:Nat) (ret:Bool→Option S) (t:Tm) (vars dims:Int) (bound:Bool):Option S:=
 ab (bound) (
 ab (decide ((dims:Int)>24)) (
  ret false) (
  aa k (mS k (ad t) vars dims) fun r1=>
  ab (!r1) (
  ret false) (
  aa k (p9 hd k (ad t) vars dims bound) fun r2=>
  ret r2))) (
 aa k (mS k (ad t) vars dims) fun r3=>
 ab (!r3) (
  ret false) (
  aa k (p9 hd k (ad t) vars dims bound) fun r4=>
  ret r4))
noncomputable def d9 {S:Type}:Nat→Tm→Int→Int→Bool→(Bool→Option S)→Option S
 |0=>fun _ _ _ _ _=> .none
 |k+1=>fun t vars dims bound ret=>FE (d9 k) k ret t vars dims bound
def FB {S:Type} (k:Nat) (ret:Int→Option S) (t:Tm):Option S:=
 aa k (mU k (ad t)) fun r1=>
 ab (!(r1==0)) (
 ret r1) (
 d9 k (ad t) (-1) 24 false fun r2=>
 ab (!r2) (
  ret 100) (
  ret 0))
noncomputable def ie {S:Type} (k:Nat) (t:Tm) (ret:Int→Option S):Option S:=FB k ret t
def EB {S:Type} (k:Nat) (ret:Int→Option S) (a_e c0:Int):Option S:=
 ab (c0==0) (
 ret a_e) (
 ret c0)
noncomputable def eX {S:Type} (k:Nat) (a_e c0:Int) (ret:Int→Option S):Option S:=EB k ret a_e c0
def oE {S:Type} (k:Nat) (ret:Int→Option S) (l:List Tm) (rec0:Int→Int→Option S) (b7_0 v10:Int):Option S:=
 ab (decide ((v10:Int)<(l.length:Int))) (
 Option.bind (ar l v10) fun x1=>
 aa k (ie k (ad x1)) fun r2=>
 aa k (eX k r2 b7_0) fun r3=>
  rec0 r3 (IntKind.wrap .i64 (v10+1))) (
 ret b7_0)
noncomputable def kH {S:Type} (k:Nat) (ret:Int→Option S) (l:List Tm):Nat→Int→Int→Option S
 |0=>fun _ _=> .none
 |m+1=>fun b7_0 v10=>oE k ret l (kH k ret l m) b7_0 v10
noncomputable def wP {S:Type} (k:Nat) (ret:Int→Option S) (J0:Int→Int→Option S) (l:List Tm):Option S:=
 J0 0 0
noncomputable def mF {S:Type} (k:Nat) (l:List Tm) (ret:Int→Option S):Option S:=wP k ret (fun b7_0 v10=>kH k ret l k b7_0 v10) l
noncomputable def fC {S:Type} (k:Nat) (ret:Bool→Option S) (c0:Int):Option S:=
 ret (c0==0)
noncomputable def cG {S:Type} (k:Nat) (c0:Int) (ret:Bool→Option S):Option S:=fC k ret c0
def oY {S:Type} (k:Nat) (ret:Int→Option S) (l:List (List Cl)) (rec0:Int→Option S) (v7:Int):Option S:=
 ab (decide ((v7:Int)<(l.length:Int))) (
 Option.bind (ar l v7) fun x1=>
 aa k (eY k x1) fun r2=>
 ab (!r2) (
  ret 2) (
   rec0 (IntKind.wrap .i64 (v7+1)))) (
 ret 0)
noncomputable def kU {S:Type} (k:Nat) (ret:Int→Option S) (l:List (List Cl)):Nat→Int→Option S
 |0=>fun _=> .none
 |m+1=>fun v7=>oY k ret l (kU k ret l m) v7
noncomputable def xt {S:Type} (k:Nat) (ret:Int→Option S) (J0:Int→Option S) (l:List (List Cl)):Option S:=
 J0 0
noncomputable def kq {S:Type} (k:Nat) (l:List (List Cl)) (ret:Int→Option S):Option S:=xt k ret (fun v7=>kU k ret l k v7) l
noncomputable def sA {S:Type} (k:Nat) (ret:List Cl→Option S):Option S:=
 ret ([]:List Cl)
noncomputable def ju {S:Type} (k:Nat) (ret:List Cl→Option S):Option S:=sA k ret
noncomputable def Fv {S:Type} (k:Nat) (ret:Int→Option S) (i:Int):Option S:=
 Option.bind (bW (0≤(IntKind.wrap .u64 (if 24<i then 24 else i)))) fun x1=>
 ret (IntKind.wrap .u32 (IntKind.wrap .u64 ((IntKind.wrap .u64 (1*2^min (Int.toNat (IntKind.wrap .u64 (if 24<i then 24 else i))) 64))-1)))
noncomputable def kw {S:Type} (k:Nat) (i:Int) (ret:Int→Option S):Option S:=Fv k ret i
def sD {S:Type} (k:Nat) (ret:Int×Int→Option S) (s a_from a_by:Int):Option S:=
 ab (decide ((a_from:Int)<0)) (
 ret (0,2)) (
 ab (decide ((a_by:Int)<0)) (
  ret (0,2)) (
  aa k (kw k a_from) fun r1=>
  aa k (kw k a_from) fun r2=>
  ab ((IntKind.wrap .u64 (aJ .andNot .u32 (aJ .and .u32 s 16777215) r2))==0) (
  ret (aJ .and .u32 (aJ .and .u32 s 16777215) r1,0)) (
  ab (decide ((a_by:Int)≥24)) (
   ret (0,10)) (
   Option.bind (bW (0≤(IntKind.wrap .u64 a_by))) fun x3=>
   ab (decide ((IntKind.wrap .u64 ((IntKind.wrap .u64 (aJ .andNot .u32 (aJ .and .u32 s 16777215) r2))*2^min (Int.toNat (IntKind.wrap .u64 a_by)) 64):Int)>16777215)) (
   ret (0,10)) (
   Option.bind (bW (0≤(IntKind.wrap .u64 a_by))) fun x4=>
   ret (aJ .or .u32 (aJ .and .u32 (aJ .and .u32 s 16777215) r1) (IntKind.wrap .u32 (IntKind.wrap .u64 ((IntKind.wrap .u64 (aJ .andNot .u32 (aJ .and .u32 s 16777215) r2))*2^min (Int.toNat (IntKind.wrap .u64 a_by)) 64))),0))))))
noncomputable def h_ {S:Type} (k:Nat) (s a_from a_by:Int) (ret:Int×Int→Option S):Option S:=sD k ret s a_from a_by
def EG {S:Type} (k:Nat) (ret:Cl×Int→Option S) (c:Cl) (a_from a_by:Int):Option S:=
 aa k (mH k c) fun r1=>
 ab (!r1) (
 ret ((Cl.mk 0 0),2)) (
 aa k (h_ k c.pos a_from a_by) fun r2=>
 ab (!(r2.2==0)) (
  ret ((Cl.mk 0 0),r2.2)) (
  aa k (h_ k c.neg a_from a_by) fun r3=>
  ab (!(r3.2==0)) (
  ret ((Cl.mk 0 0),r3.2)) (
  ret ((Cl.mk r2.1 r3.1),0))))
noncomputable def pD {S:Type} (k:Nat) (c:Cl) (a_from a_by:Int) (ret:Cl×Int→Option S):Option S:=EG k ret c a_from a_by
noncomputable def E7 {S:Type} (k:Nat) (ret:List Cl×Int→Option S) (a_have:List Cl) (c:Cl) (c0 c1:Int):Option S:=
 aa k (pD k c c0 c1) fun r1=>
 Option.bind (aS 1099511627776 a_have.length [r1.1].length) fun x2=>
 ret (a_have++[r1.1],r1.2)
noncomputable def tY {S:Type} (k:Nat) (a_have:List Cl) (c:Cl) (c0 c1:Int) (ret:List Cl×Int→Option S):Option S:=E7 k ret a_have c c0 c1
def oV {S:Type} (k:Nat) (ret:List Cl×Int→Option S) (c0 c1:Int) (l:List Cl) (rec0:(List Cl)→Int→Option S) (v1:List Cl) (v15:Int):Option S:=
 ab (decide ((v15:Int)<(l.length:Int))) (
 Option.bind (ar l v15) fun x1=>
 aa k (tY k v1 x1 c0 c1) fun r2=>
 ab (!(r2.2==0)) (
  ret (([]:List Cl),r2.2)) (
   rec0 r2.1 (IntKind.wrap .i64 (v15+1)))) (
 ret (v1,0))
noncomputable def kS {S:Type} (k:Nat) (ret:List Cl×Int→Option S) (c0 c1:Int) (l:List Cl):Nat→(List Cl)→Int→Option S
 |0=>fun _ _=> .none
 |m+1=>fun v1 v15=>oV k ret c0 c1 l (kS k ret c0 c1 l m) v1 v15
noncomputable def xm {S:Type} (k:Nat) (ret:List Cl×Int→Option S) (J0:(List Cl)→Int→Option S) (l a_from:List Cl) (c0 c1:Int):Option S:=
 J0 a_from 0
noncomputable def pV {S:Type} (k:Nat) (l a_from:List Cl) (c0 c1:Int) (ret:List Cl×Int→Option S):Option S:=xm k ret (fun v1 v15=>kS k ret c0 c1 l k v1 v15) l a_from c0 c1
def E6 {S:Type} (k:Nat) (ret:List Cl×Int→Option S) (f:List Cl) (a_from a_by:Int):Option S:=
 aa k (kq k [f]) fun r1=>
 ab (!(r1==0)) (
 ret (([]:List Cl),r1)) (
 aa k (ju k) fun r2=>
 aa k (pV k f r2 a_from a_by) fun r3=>
 ab (!(r3.2==0)) (
  ret (([]:List Cl),r3.2)) (
  aa k (eL k r3.1) fun r4=>
  ret (r4.1,r4.2)))
noncomputable def hZ {S:Type} (k:Nat) (f:List Cl) (a_from a_by:Int) (ret:List Cl×Int→Option S):Option S:=E6 k ret f a_from a_by
def wT {S:Type} (k:Nat) (ret:List Cl×Int→Option S) (f:List Cl) (c0:Int):Option S:=
 aa k (cG k c0) fun r1=>
 ab (!r1) (
 ret (([]:List Cl),c0)) (
 aa k (hZ k f 0 1) fun r2=>
 aa k (eX k r2.2 c0) fun r3=>
 ret (r2.1,r3))
noncomputable def gA {S:Type} (k:Nat) (f:List Cl) (c0:Int) (ret:List Cl×Int→Option S):Option S:=wT k ret f c0
def oR {S:Type} (k:Nat) (ret:Int→Option S) (l:List (List Cl)) (rec0:Int→Option S) (v7:Int):Option S:=
 ab (decide ((v7:Int)<(l.length:Int))) (
 Option.bind (ar l v7) fun x1=>
 aa k (hY k x1) fun r2=>
 ab (!r2) (
  ret 2) (
   rec0 (IntKind.wrap .i64 (v7+1)))) (
 ret 0)
noncomputable def kO {S:Type} (k:Nat) (ret:Int→Option S) (l:List (List Cl)):Nat→Int→Option S
 |0=>fun _=> .none
 |m+1=>fun v7=>oR k ret l (kO k ret l m) v7
noncomputable def xg {S:Type} (k:Nat) (ret:Int→Option S) (J0:Int→Option S) (l:List (List Cl)):Option S:=
 J0 0
noncomputable def pQ {S:Type} (k:Nat) (l:List (List Cl)) (ret:Int→Option S):Option S:=xg k ret (fun v7=>kO k ret l k v7) l
noncomputable def E3 {S:Type} (k:Nat) (ret:List Cl×Int→Option S) (f g:List Cl):Option S:=
 Option.bind (aS 1099511627776 ([]:List Cl).length f.length) fun x1=>
 Option.bind (aS 1099511627776 (([]:List Cl)++f).length g.length) fun x2=>
 aa k (eL k ((([]:List Cl)++f)++g)) fun r3=>
 ret (r3.1,r3.2)
noncomputable def mO {S:Type} (k:Nat) (f g:List Cl) (ret:List Cl×Int→Option S):Option S:=E3 k ret f g
def EX {S:Type} (k:Nat) (ret:List Cl×Int→Option S) (f g:List Cl):Option S:=
 aa k (pQ k [f,g]) fun r1=>
 ab (!(r1==0)) (
 ret (([]:List Cl),r1)) (
 aa k (mO k f g) fun r2=>
 ret (r2.1,r2.2))
noncomputable def pJ {S:Type} (k:Nat) (f g:List Cl) (ret:List Cl×Int→Option S):Option S:=EX k ret f g
def wS {S:Type} (k:Nat) (ret:List Cl×Int→Option S) (f g:List Cl) (c0:Int):Option S:=
 aa k (cG k c0) fun r1=>
 ab (!r1) (
 ret (([]:List Cl),c0)) (
 aa k (pJ k f g) fun r2=>
 aa k (eX k r2.2 c0) fun r3=>
 ret (r2.1,r3))
noncomputable def hU {S:Type} (k:Nat) (f g:List Cl) (c0:Int) (ret:List Cl×Int→Option S):Option S:=wS k ret f g c0
def Fo {S:Type} (k:Nat) (ret:Pan Int (List Cl)→Option S) (l_0 l_1:Int) (f:List Cl) (a_from:Int):Option S:=
 ab (l_1==0) (
 Option.bind (aS 1099511627776 0 f.length) fun x1=>
 ret (.ok f)) (
 ab (decide ((a_from:Int)≥24)) (
  Option.bind (aS 1099511627776 0 f.length) fun x2=>
  ret (.ok f)) (
  aa k (hZ k f a_from l_1) fun r3=>
  ab (!(r3.2==0)) (
  ret (.pan r3.2)) (
  ret (.ok r3.1))))
noncomputable def mP {S:Type} (k:Nat) (l_0 l_1:Int) (f:List Cl) (a_from:Int) (ret:Pan Int (List Cl)→Option S):Option S:=Fo k ret l_0 l_1 f a_from
abbrev d6 (S:Type):=Int→Int→Tm→Int→Int→(Pan Int Tm→Option S)→Option S
def o_ {S:Type} (hd:d6 S) (k:Nat) (ret:Pan Int Tm→Option S) (r12:List Cl) (l_0 l_1:Int) (t:Tm) (b9_1:Int) (r2:List Cl) (b9_4:List Tm) (b9_5:List (Br Tm)) (x10:(Br Tm)) (more14 v d v90:Int) (rec2:(List (Br Tm))→Int→Int→Option S) (rec3:(List Tm)→Int→Option S) (b17_1:List Tm) (v103:Int):Option S:=
 ab (decide ((v103:Int)<(x10.kids.length:Int))) (
 Option.bind (ar x10.kids v103) fun x14=>
 hd l_0 l_1 (ad x14) v (IntKind.wrap .i64 (d+more14)) fun r16=>Pan.elim r16 (fun r16=>
  Option.bind (aS 1099511627776 b17_1.length [(ad r16)].length) fun x18=>
   rec3 (b17_1++[(ad r16)]) (IntKind.wrap .i64 (v103+1))) (fun e17=>
  ret (.pan e17))) (
 Option.bind (aS 1099511627776 b9_5.length [(Br.mk r12 b17_1)].length) fun x19=>
  rec2 (b9_5++[(Br.mk r12 b17_1)]) more14 (IntKind.wrap .i64 (v90+1)))
noncomputable def iH {S:Type} (hd:d6 S) (k:Nat) (ret:Pan Int Tm→Option S) (rec2:(List (Br Tm))→Int→Int→Option S) (r12:List Cl) (l_0 l_1:Int) (t:Tm) (b9_1:Int) (r2:List Cl) (b9_4:List Tm) (b9_5:List (Br Tm)) (x10:(Br Tm)) (more14 v d v90:Int):Nat→(List Tm)→Int→Option S
 |0=>fun _ _=> .none
 |m+1=>fun b17_1 v103=>o_ hd k ret r12 l_0 l_1 t b9_1 r2 b9_4 b9_5 x10 more14 v d v90 rec2 (iH hd k ret rec2 r12 l_0 l_1 t b9_1 r2 b9_4 b9_5 x10 more14 v d v90 m) b17_1 v103
def mg {S:Type} (hd:d6 S) (k:Nat) (ret:Pan Int Tm→Option S) (l_0 l_1:Int) (t:Tm) (b9_1:Int) (r2:List Cl) (b9_4:List Tm) (v d:Int) (J3:(List Cl)→(List (Br Tm))→(Br Tm)→Int→Int→(List Tm)→Int→Option S) (rec2:(List (Br Tm))→Int→Int→Option S) (b9_5:List (Br Tm)) (more14 v90:Int):Option S:=
 ab (decide ((v90:Int)<(t.sys.length:Int))) (
 Option.bind (ar t.sys v90) fun x10=>
 aa k (mP k l_0 l_1 x10.face d) fun r12=>Pan.elim r12 (fun r12=>
   J3 r12 b9_5 x10 more14 v90 ([]:List Tm) 0) (fun e13=>
  ret (.pan e13))) (
 ret (.ok (Tm.mk t.kind b9_1 t.name r2 b9_4 b9_5)))
noncomputable def dV {S:Type} (hd:d6 S) (k:Nat) (ret:Pan Int Tm→Option S) (l_0 l_1:Int) (t:Tm) (b9_1:Int) (r2:List Cl) (b9_4:List Tm) (v d:Int):Nat→(List (Br Tm))→Int→Int→Option S
 |0=>fun _ _ _=> .none
 |m+1=>fun b9_5 more14 v90=>mg hd k ret l_0 l_1 t b9_1 r2 b9_4 v d (fun r12 b9_5 x10 more14 v90 b17_1 v103=>iH hd k ret (dV hd k ret l_0 l_1 t b9_1 r2 b9_4 v d m) r12 l_0 l_1 t b9_1 r2 b9_4 b9_5 x10 more14 v d v90 k b17_1 v103) (dV hd k ret l_0 l_1 t b9_1 r2 b9_4 v d m) b9_5 more14 v90
def mf {S:Type} (hd:d6 S) (k:Nat) (ret:Pan Int Tm→Option S) (l_0 l_1:Int) (t:Tm) (b9_1:Int) (r2:List Cl) (v d:Int) (J2:(List Tm)→(List (Br Tm))→Int→Int→Option S) (rec1:(List Tm)→Int→Option S) (b9_4:List Tm) (v57:Int):Option S:=
 ab (decide ((v57:Int)<(t.kids.length:Int))) (
 Option.bind (ar t.kids v57) fun x4=>
 aa k (ic k t.kind v57) fun r5=>
 hd l_0 l_1 (ad x4) (IntKind.wrap .i64 (v+r5.1)) (IntKind.wrap .i64 (d+r5.2)) fun r7=>Pan.elim r7 (fun r7=>
  Option.bind (aS 1099511627776 b9_4.length [(ad r7)].length) fun x9=>
   rec1 (b9_4++[(ad r7)]) (IntKind.wrap .i64 (v57+1))) (fun e8=>
  ret (.pan e8))) (
 ab (t.kind==15) (
   J2 b9_4 ([]:List (Br Tm)) 1 0) (
   J2 b9_4 ([]:List (Br Tm)) 0 0))
noncomputable def gO {S:Type} (hd:d6 S) (k:Nat) (ret:Pan Int Tm→Option S) (l_0 l_1:Int) (t:Tm) (b9_1:Int) (r2:List Cl) (v d:Int):Nat→(List Tm)→Int→Option S
 |0=>fun _ _=> .none
 |m+1=>fun b9_4 v57=>mf hd k ret l_0 l_1 t b9_1 r2 v d (fun b9_4 b9_5 more14 v90=>dV hd k ret l_0 l_1 t b9_1 r2 b9_4 v d k b9_5 more14 v90) (gO hd k ret l_0 l_1 t b9_1 r2 v d m) b9_4 v57
noncomputable def tz {S:Type} (hd:d6 S) (k:Nat) (ret:Pan Int Tm→Option S) (l_0 l_1:Int) (t:Tm) (r2:List Cl) (v d:Int) (J1:Int→(List Tm)→Int→Option S) (b9_1:Int):Option S:=
 J1 b9_1 ([]:List Tm) 0
noncomputable def nd {S:Type} (hd:d6 S) (k:Nat) (ret:Pan Int Tm→Option S) (l_0 l_1:Int) (t:Tm) (r2:List Cl) (v d:Int):Nat→Int→Option S
 |0=>fun _=> .none
 |_+1=>fun b9_1=>tz hd k ret l_0 l_1 t r2 v d (fun b9_1 b9_4 v57=>gO hd k ret l_0 l_1 t b9_1 r2 v d k b9_4 v57) b9_1
def xx {S:Type} (hd:d6 S) (k:Nat) (ret:Pan Int Tm→Option S) (J0:(List Cl)→Int→Option S) (l_0 l_1:Int) (t:Tm) (v d:Int):Option S:=
 aa k (mP k l_0 l_1 t.r d) fun r2=>Pan.elim r2 (fun r2=>
 ab (t.kind==1) (
  ab (decide ((t.n:Int)≥v)) (
  ab (decide ((t.n:Int)>(IntKind.wrap .i64 (1000000000-l_0)))) (
   ret (.pan 100)) (
     J0 r2 (IntKind.wrap .i64 (t.n+l_0)))) (
    J0 r2 t.n)) (
   J0 r2 t.n)) (fun e3=>
 ret (.pan e3))
noncomputable def cH {S:Type}:Nat→Int→Int→Tm→Int→Int→(Pan Int Tm→Option S)→Option S
 |0=>fun _ _ _ _ _ _=> .none
 |k+1=>fun l_0 l_1 t v d ret=>xx (cH k) k ret (fun r2 b9_1=>nd (cH k) k ret l_0 l_1 t r2 v d k b9_1) l_0 l_1 t v d
noncomputable def Fl {S:Type} (k:Nat) (ret:Pan Int Tm→Option S) (c0:Int) (c1:Tm) (c2:Int):Option S:=
 cH k 0 c0 (ad c1) 0 (if 24<c2 then 24 else c2) fun r2=>Pan.elim r2 (fun r2=>
 ret (.ok (ad r2))) (fun e3=>
 ret (.pan e3))
noncomputable def p6 {S:Type} (k:Nat) (c0:Int) (c1:Tm) (c2:Int) (ret:Pan Int Tm→Option S):Option S:=Fl k ret c0 c1 c2
def o8 {S:Type} (k:Nat) (ret:Tm×Int→Option S) (c0:Int) (c1:Tm) (c2:Int) (numbers:List Int) (rec0:Int→Option S) (v19:Int):Option S:=
 ab (decide ((v19:Int)<(numbers.length:Int))) (
 Option.bind (ar numbers v19) fun x2=>
 ab (decide ((x2:Int)<0)) (
  ret ((Tm.mk 0 0 ByteArray.empty [] [] []),2)) (
   rec0 (IntKind.wrap .i64 (v19+1)))) (
 aa k (p6 k c0 (ad c1) c2) fun r4=>Pan.elim r4 (fun r4=>
  ret ((ad r4),0)) (fun e5=>
  ret ((Tm.mk 0 0 ByteArray.empty [] [] []),e5)))
noncomputable def jJ {S:Type} (k:Nat) (ret:Tm×Int→Option S) (c0:Int) (c1:Tm) (c2:Int) (numbers:List Int):Nat→Int→Option S
 |0=>fun _=> .none
 |m+1=>fun v19=>o8 k ret c0 c1 c2 numbers (jJ k ret c0 c1 c2 numbers m) v19
def xv {S:Type} (k:Nat) (ret:Tm×Int→Option S) (J0:Int→Option S) (t:Tm) (numbers:List Int) (c0:Int) (c1:Tm) (c2:Int):Option S:=
 aa k (ie k (ad t)) fun r1=>
 ab (!(r1==0)) (
 ret ((Tm.mk 0 0 ByteArray.empty [] [] []),r1)) (
  J0 0)
noncomputable def t_ {S:Type} (k:Nat) (t:Tm) (numbers:List Int) (c0:Int) (c1:Tm) (c2:Int) (ret:Tm×Int→Option S):Option S:=xv k ret (fun v19=>jJ k ret c0 c1 c2 numbers k v19) t numbers c0 c1 c2
noncomputable def Fk {S:Type} (k:Nat) (ret:Tm×Int→Option S) (t:Tm) (a_from a_by:Int):Option S:=
 aa k (t_ k (ad t) [a_from,a_by] a_by (ad t) a_from) fun r1=>
 ret ((ad r1.1),r1.2)
noncomputable def p5 {S:Type} (k:Nat) (t:Tm) (a_from a_by:Int) (ret:Tm×Int→Option S):Option S:=Fk k ret t a_from a_by
def Fs {S:Type} (k:Nat) (ret:Int→Option S) (s i:Int):Option S:=
 aa k (jx k i) fun r1=>
 ab (!r1) (
 ret (aJ .and .u32 s 16777215)) (
 Option.bind (bW (0≤(IntKind.wrap .u64 i))) fun x2=>
 ret (aJ .or .u32 (aJ .and .u32 s 16777215) (IntKind.wrap .u32 (1*2^min (Int.toNat (IntKind.wrap .u64 i)) 32))))
noncomputable def fP {S:Type} (k:Nat) (s i:Int) (ret:Int→Option S):Option S:=Fs k ret s i
noncomputable def R8 {S:Type} (k:Nat) (ret:Int→Option S) (a_x:Int):Option S:=
 Option.bind (ar (ByteArray.mk #[0,1,1,2,1,2,2,3,1,2,2,3,2,3,3,4,1,2,2,3,2,3,3,4,2,3,3,4,3,4,4,5,1,2,2,3,2,3,3,4,2,3,3,4,3,4,4,5,2,3,3,4,3,4,4,5,3,4,4,5,4,5,5,6,1,2,2,3,2,3,3,4,2,3,3,4,3,4,4,5,2,3,3,4,3,4,4,5,3,4,4,5,4,5,5,6,2,3,3,4,3,4,4,5,3,4,4,5,4,5,5,6,3,4,4,5,4,5,5,6,4,5,5,6,5,6,6,7,1,2,2,3,2,3,3,4,2,3,3,4,3,4,4,5,2,3,3,4,3,4,4,5,3,4,4,5,4,5,5,6,2,3,3,4,3,4,4,5,3,4,4,5,4,5,5,6,3,4,4,5,4,5,5,6,4,5,5,6,5,6,6,7,2,3,3,4,3,4,4,5,3,4,4,5,4,5,5,6,3,4,4,5,4,5,5,6,4,5,5,6,5,6,6,7,3,4,4,5,4,5,5,6,4,5,5,6,5,6,6,7,4,5,5,6,5,6,6,7,5,6,6,7,6,7,7,8]).data.toList (Int.fdiv a_x (2^min (Int.toNat 24) 32))) fun x1=>
 Option.bind (ar (ByteArray.mk #[0,1,1,2,1,2,2,3,1,2,2,3,2,3,3,4,1,2,2,3,2,3,3,4,2,3,3,4,3,4,4,5,1,2,2,3,2,3,3,4,2,3,3,4,3,4,4,5,2,3,3,4,3,4,4,5,3,4,4,5,4,5,5,6,1,2,2,3,2,3,3,4,2,3,3,4,3,4,4,5,2,3,3,4,3,4,4,5,3,4,4,5,4,5,5,6,2,3,3,4,3,4,4,5,3,4,4,5,4,5,5,6,3,4,4,5,4,5,5,6,4,5,5,6,5,6,6,7,1,2,2,3,2,3,3,4,2,3,3,4,3,4,4,5,2,3,3,4,3,4,4,5,3,4,4,5,4,5,5,6,2,3,3,4,3,4,4,5,3,4,4,5,4,5,5,6,3,4,4,5,4,5,5,6,4,5,5,6,5,6,6,7,2,3,3,4,3,4,4,5,3,4,4,5,4,5,5,6,3,4,4,5,4,5,5,6,4,5,5,6,5,6,6,7,3,4,4,5,4,5,5,6,4,5,5,6,5,6,6,7,4,5,5,6,5,6,6,7,5,6,6,7,6,7,7,8]).data.toList (aJ .and .u32 (Int.fdiv a_x (2^min (Int.toNat 16) 32)) 255)) fun x2=>
 Option.bind (ar (ByteArray.mk #[0,1,1,2,1,2,2,3,1,2,2,3,2,3,3,4,1,2,2,3,2,3,3,4,2,3,3,4,3,4,4,5,1,2,2,3,2,3,3,4,2,3,3,4,3,4,4,5,2,3,3,4,3,4,4,5,3,4,4,5,4,5,5,6,1,2,2,3,2,3,3,4,2,3,3,4,3,4,4,5,2,3,3,4,3,4,4,5,3,4,4,5,4,5,5,6,2,3,3,4,3,4,4,5,3,4,4,5,4,5,5,6,3,4,4,5,4,5,5,6,4,5,5,6,5,6,6,7,1,2,2,3,2,3,3,4,2,3,3,4,3,4,4,5,2,3,3,4,3,4,4,5,3,4,4,5,4,5,5,6,2,3,3,4,3,4,4,5,3,4,4,5,4,5,5,6,3,4,4,5,4,5,5,6,4,5,5,6,5,6,6,7,2,3,3,4,3,4,4,5,3,4,4,5,4,5,5,6,3,4,4,5,4,5,5,6,4,5,5,6,5,6,6,7,3,4,4,5,4,5,5,6,4,5,5,6,5,6,6,7,4,5,5,6,5,6,6,7,5,6,6,7,6,7,7,8]).data.toList (aJ .and .u32 (Int.fdiv a_x (2^min (Int.toNat 8) 32)) 255)) fun x3=>
 Option.bind (ar (ByteArray.mk #[0,1,1,2,1,2,2,3,1,2,2,3,2,3,3,4,1,2,2,3,2,3,3,4,2,3,3,4,3,4,4,5,1,2,2,3,2,3,3,4,2,3,3,4,3,4,4,5,2,3,3,4,3,4,4,5,3,4,4,5,4,5,5,6,1,2,2,3,2,3,3,4,2,3,3,4,3,4,4,5,2,3,3,4,3,4,4,5,3,4,4,5,4,5,5,6,2,3,3,4,3,4,4,5,3,4,4,5,4,5,5,6,3,4,4,5,4,5,5,6,4,5,5,6,5,6,6,7,1,2,2,3,2,3,3,4,2,3,3,4,3,4,4,5,2,3,3,4,3,4,4,5,3,4,4,5,4,5,5,6,2,3,3,4,3,4,4,5,3,4,4,5,4,5,5,6,3,4,4,5,4,5,5,6,4,5,5,6,5,6,6,7,2,3,3,4,3,4,4,5,3,4,4,5,4,5,5,6,3,4,4,5,4,5,5,6,4,5,5,6,5,6,6,7,3,4,4,5,4,5,5,6,4,5,5,6,5,6,6,7,4,5,5,6,5,6,6,7,5,6,6,7,6,7,7,8]).data.toList (aJ .and .u32 a_x 255)) fun x4=>
 ret (IntKind.wrap .i64 (IntKind.wrap .u8 ((IntKind.wrap .u8 ((IntKind.wrap .u8 ((x1.toNat:Int)+(x2.toNat:Int)))+(x3.toNat:Int)))+(x4.toNat:Int))))
noncomputable def yQ {S:Type} (k:Nat) (a_x:Int) (ret:Int→Option S):Option S:=R8 k ret a_x
noncomputable def xy {S:Type} (k:Nat) (ret:Int→Option S) (s:Int):Option S:=
 aa k (yQ k (aJ .and .u32 s 16777215)) fun r1=>
 ret r1
noncomputable def h9 {S:Type} (k:Nat) (s:Int) (ret:Int→Option S):Option S:=xy k ret s
noncomputable def EK {S:Type} (k:Nat) (ret:Bool→Option S) (i:Int):Option S:=
 aa k (fP k 0 i) fun r1=>
 aa k (h9 k r1) fun r2=>
 ret (r2==1)
noncomputable def pF {S:Type} (k:Nat) (i:Int) (ret:Bool→Option S):Option S:=EK k ret i
def EW {S:Type} (k:Nat) (ret:Int→Option S) (t:Tm) (i:Int) (a_r:List Cl):Option S:=
 aa k (ie k (ad t)) fun r1=>
 ab (!(r1==0)) (
 ret r1) (
 aa k (pF k i) fun r2=>
 ab (!r2) (
  ret 2) (
  aa k (eY k a_r) fun r3=>
  ab (!r3) (
  ret 2) (
  ret 0)))
noncomputable def tX {S:Type} (k:Nat) (t:Tm) (i:Int) (a_r:List Cl) (ret:Int→Option S):Option S:=EW k ret t i a_r
noncomputable def ER {S:Type} (k:Nat) (ret:Unit→Option S) (c0:Int) (c1:List Cl):Option S:=
 ret ()
noncomputable def tQ {S:Type} (k:Nat) (c0:Int) (c1:List Cl) (ret:Unit→Option S):Option S:=ER k ret c0 c1
noncomputable def ES {S:Type} (k:Nat) (ret:Unit→Option S) (c0:Int) (c1:List Cl):Option S:=
 ret ()
noncomputable def tR {S:Type} (k:Nat) (c0:Int) (c1:List Cl) (ret:Unit→Option S):Option S:=ES k ret c0 c1
noncomputable def EO {S:Type} (k:Nat) (ret:Int×List Cl→Option S) (i:Int) (a_r:List Cl):Option S:=
 aa k (tQ k i a_r) fun r1=>
 aa k (tR k i a_r) fun r2=>
 ret (i,a_r)
noncomputable def tP {S:Type} (k:Nat) (i:Int) (a_r:List Cl) (ret:Int×List Cl→Option S):Option S:=EO k ret i a_r
def Fq {S:Type} (k:Nat) (ret:Bool→Option S) (s i:Int):Option S:=
 aa k (jx k i) fun r1=>
 ab (r1) (
 Option.bind (bW (0≤(IntKind.wrap .u64 i))) fun x2=>
 ret ((aJ .and .u32 (Int.fdiv s (2^min (Int.toNat (IntKind.wrap .u64 i)) 32)) 1)==1)) (
 ret false)
noncomputable def eZ {S:Type} (k:Nat) (s i:Int) (ret:Bool→Option S):Option S:=Fq k ret s i
noncomputable def wX {S:Type} (k:Nat) (ret:List Cl→Option S) (f:List Cl):Option S:=
 Option.bind (aS 1099511627776 0 f.length) fun x1=>
 ret f
noncomputable def mI {S:Type} (k:Nat) (f:List Cl) (ret:List Cl→Option S):Option S:=wX k ret f
noncomputable def E2 {S:Type} (k:Nat) (ret:Bool→Option S) (i:Int):Option S:=
 aa k (fP k 0 i) fun r1=>
 aa k (h9 k r1) fun r2=>
 ret (r2==1)
noncomputable def pM {S:Type} (k:Nat) (i:Int) (ret:Bool→Option S):Option S:=E2 k ret i
noncomputable def E1 {S:Type} (k:Nat) (ret:Cl×Bool→Option S) (c:Cl):Option S:=
 aa k (mG k c) fun r1=>
 ret (c,!r1)
noncomputable def mN {S:Type} (k:Nat) (c:Cl) (ret:Cl×Bool→Option S):Option S:=E1 k ret c
def oP {S:Type} (k:Nat) (ret:List Cl→Option S) (l:List Cl) (rec0:Int→(List Cl)→Option S) (v12:Int) (out5:List Cl):Option S:=
 ab (decide ((v12:Int)<(l.length:Int))) (
 Option.bind (ar l v12) fun x1=>
 aa k (mN k x1) fun r2=>
 ab (r2.2) (
  Option.bind (aS 1099511627776 out5.length [r2.1].length) fun x3=>
   rec0 (IntKind.wrap .i64 (v12+1)) (out5++[r2.1])) (
   rec0 (IntKind.wrap .i64 (v12+1)) out5)) (
 ret out5)
noncomputable def kM {S:Type} (k:Nat) (ret:List Cl→Option S) (l:List Cl):Nat→Int→(List Cl)→Option S
 |0=>fun _ _=> .none
 |m+1=>fun v12 out5=>oP k ret l (kM k ret l m) v12 out5
noncomputable def xd {S:Type} (k:Nat) (ret:List Cl→Option S) (J0:Int→(List Cl)→Option S) (l:List Cl):Option S:=
 J0 0 ([]:List Cl)
noncomputable def pO {S:Type} (k:Nat) (l:List Cl) (ret:List Cl→Option S):Option S:=xd k ret (fun v12 out5=>kM k ret l k v12 out5) l
def EY {S:Type} (k:Nat) (ret:List Cl×Int→Option S) (f:List Cl):Option S:=
 aa k (eY k f) fun r1=>
 ab (!r1) (
 ret (([]:List Cl),2)) (
 aa k (pO k f) fun r2=>
 aa k (eL k r2) fun r3=>
 ret (r3.1,r3.2))
noncomputable def mM {S:Type} (k:Nat) (f:List Cl) (ret:List Cl×Int→Option S):Option S:=EY k ret f
noncomputable def E4 {S:Type} (k:Nat) (ret:Cl×Bool→Option S) (b c0:Cl):Option S:=
 aa k (kj k c0 b) fun r1=>
 aa k (mN k r1) fun r2=>
 ret (r2.1,r2.2)
noncomputable def pP {S:Type} (k:Nat) (b c0:Cl) (ret:Cl×Bool→Option S):Option S:=E4 k ret b c0
def oO {S:Type} (k:Nat) (ret:List Cl→Option S) (c0:Cl) (l:List Cl) (rec0:Int→(List Cl)→Option S) (v12:Int) (out5:List Cl):Option S:=
 ab (decide ((v12:Int)<(l.length:Int))) (
 Option.bind (ar l v12) fun x1=>
 aa k (pP k x1 c0) fun r2=>
 ab (r2.2) (
  Option.bind (aS 1099511627776 out5.length [r2.1].length) fun x3=>
   rec0 (IntKind.wrap .i64 (v12+1)) (out5++[r2.1])) (
   rec0 (IntKind.wrap .i64 (v12+1)) out5)) (
 ret out5)
noncomputable def kL {S:Type} (k:Nat) (ret:List Cl→Option S) (c0:Cl) (l:List Cl):Nat→Int→(List Cl)→Option S
 |0=>fun _ _=> .none
 |m+1=>fun v12 out5=>oO k ret c0 l (kL k ret c0 l m) v12 out5
noncomputable def xb {S:Type} (k:Nat) (ret:List Cl→Option S) (J0:Int→(List Cl)→Option S) (l:List Cl) (c0:Cl):Option S:=
 J0 0 ([]:List Cl)
noncomputable def pN {S:Type} (k:Nat) (l:List Cl) (c0:Cl) (ret:List Cl→Option S):Option S:=xb k ret (fun v12 out5=>kL k ret c0 l k v12 out5) l c0
def oQ {S:Type} (k:Nat) (ret:List Cl×Int→Option S) (g f:List Cl) (rec0:Int→(List Cl)→Option S) (v11:Int) (out6:List Cl):Option S:=
 ab (decide ((v11:Int)<(f.length:Int))) (
 Option.bind (ar f v11) fun x1=>
 aa k (pN k g x1) fun r2=>
 Option.bind (aS 1099511627776 out6.length r2.length) fun x3=>
  rec0 (IntKind.wrap .i64 (v11+1)) (out6++r2)) (
 aa k (eL k out6) fun r4=>
 ret (r4.1,r4.2))
noncomputable def kN {S:Type} (k:Nat) (ret:List Cl×Int→Option S) (g f:List Cl):Nat→Int→(List Cl)→Option S
 |0=>fun _ _=> .none
 |m+1=>fun v11 out6=>oQ k ret g f (kN k ret g f m) v11 out6
noncomputable def xe {S:Type} (k:Nat) (ret:List Cl×Int→Option S) (J0:Int→(List Cl)→Option S) (f g:List Cl):Option S:=
 J0 0 ([]:List Cl)
noncomputable def km {S:Type} (k:Nat) (f g:List Cl) (ret:List Cl×Int→Option S):Option S:=xe k ret (fun v11 out6=>kN k ret g f k v11 out6) f g
noncomputable def xj {S:Type} (k:Nat) (ret:List Cl→Option S):Option S:=
 ret [(Cl.mk 0 0)]
noncomputable def h8 {S:Type} (k:Nat) (ret:List Cl→Option S):Option S:=xj k ret
def oX {S:Type} (k:Nat) (ret:List Cl×Int→Option S) (r5:List Int) (rec1:Int→(List Cl)→Option S) (v28:Int) (out4':List Cl):Option S:=
 ab (decide ((v28:Int)<(r5.length:Int))) (
 Option.bind (ar r5 v28) fun x6=>
 aa k (fP k 0 x6) fun r7=>
 Option.bind (aS 1099511627776 out4'.length [(Cl.mk r7 0)].length) fun x8=>
  rec1 (IntKind.wrap .i64 (v28+1)) (out4'++[(Cl.mk r7 0)])) (
 aa k (eL k out4') fun r9=>
 ret (r9.1,r9.2))
noncomputable def jH {S:Type} (k:Nat) (ret:List Cl×Int→Option S) (r5:List Int):Nat→Int→(List Cl)→Option S
 |0=>fun _ _=> .none
 |m+1=>fun v28 out4'=>oX k ret r5 (jH k ret r5 m) v28 out4'
def mc {S:Type} (k:Nat) (ret:List Cl×Int→Option S) (c:Cl) (r1:List Int) (J1:(List Int)→Int→(List Cl)→Option S) (rec0:Int→(List Cl)→Option S) (v13:Int) (out4:List Cl):Option S:=
 ab (decide ((v13:Int)<(r1.length:Int))) (
 Option.bind (ar r1 v13) fun x2=>
 aa k (fP k 0 x2) fun r3=>
 Option.bind (aS 1099511627776 out4.length [(Cl.mk 0 r3)].length) fun x4=>
  rec0 (IntKind.wrap .i64 (v13+1)) (out4++[(Cl.mk 0 r3)])) (
 nK c.neg fun r5=>
  J1 r5 0 out4)
noncomputable def kT {S:Type} (k:Nat) (ret:List Cl×Int→Option S) (c:Cl) (r1:List Int):Nat→Int→(List Cl)→Option S
 |0=>fun _ _=> .none
 |m+1=>fun v13 out4=>mc k ret c r1 (fun r5 v28 out4'=>jH k ret r5 k v28 out4') (kT k ret c r1 m) v13 out4
noncomputable def xq {S:Type} (k:Nat) (ret:List Cl×Int→Option S) (J0:(List Int)→Int→(List Cl)→Option S) (c:Cl):Option S:=
 nK c.pos fun r1=>
 J0 r1 0 ([]:List Cl)
noncomputable def pX {S:Type} (k:Nat) (c:Cl) (ret:List Cl×Int→Option S):Option S:=xq k ret (fun r1 v13 out4=>kT k ret c r1 k v13 out4) c
def oW {S:Type} (k:Nat) (ret:List Cl×Int→Option S) (x1:Cl) (g f:List Cl) (v13:Int) (rec0:Int→(List Cl)→Option S) (rec1:Int→(List Cl)→Option S) (v19:Int) (out6':List Cl):Option S:=
 ab (decide ((v19:Int)<(g.length:Int))) (
 Option.bind (ar g v19) fun x2=>
 aa k (kj k x1 x2) fun r3=>
 Option.bind (aS 1099511627776 out6'.length [r3].length) fun x4=>
  rec1 (IntKind.wrap .i64 (v19+1)) (out6'++[r3])) (
  rec0 (IntKind.wrap .i64 (v13+1)) out6')
noncomputable def jG {S:Type} (k:Nat) (ret:List Cl×Int→Option S) (rec0:Int→(List Cl)→Option S) (x1:Cl) (g f:List Cl) (v13:Int):Nat→Int→(List Cl)→Option S
 |0=>fun _ _=> .none
 |m+1=>fun v19 out6'=>oW k ret x1 g f v13 rec0 (jG k ret rec0 x1 g f v13 m) v19 out6'
def ma {S:Type} (k:Nat) (ret:List Cl×Int→Option S) (g f:List Cl) (J1:Cl→Int→Int→(List Cl)→Option S) (rec0:Int→(List Cl)→Option S) (v13:Int) (out6:List Cl):Option S:=
 ab (decide ((v13:Int)<(f.length:Int))) (
 Option.bind (ar f v13) fun x1=>
  J1 x1 v13 0 out6) (
 aa k (eL k out6) fun r5=>
 ret (r5.1,r5.2))
noncomputable def iG {S:Type} (k:Nat) (ret:List Cl×Int→Option S) (g f:List Cl):Nat→Int→(List Cl)→Option S
 |0=>fun _ _=> .none
 |m+1=>fun v13 out6=>ma k ret g f (fun x1 v13 v19 out6'=>jG k ret (iG k ret g f m) x1 g f v13 k v19 out6') (iG k ret g f m) v13 out6
noncomputable def xo {S:Type} (k:Nat) (ret:List Cl×Int→Option S) (J0:Int→(List Cl)→Option S) (f g:List Cl):Option S:=
 J0 0 ([]:List Cl)
noncomputable def gC {S:Type} (k:Nat) (f g:List Cl) (ret:List Cl×Int→Option S):Option S:=xo k ret (fun v13 out6=>iG k ret g f k v13 out6) f g
def Fe {S:Type} (k:Nat) (ret:List Cl×Int→Option S) (a_have:List Cl) (c:Cl):Option S:=
 aa k (pX k c) fun r1=>
 ab (!(r1.2==0)) (
 ret (([]:List Cl),r1.2)) (
 aa k (gC k a_have r1.1) fun r2=>
 ret (r2.1,r2.2))
noncomputable def pW {S:Type} (k:Nat) (a_have:List Cl) (c:Cl) (ret:List Cl×Int→Option S):Option S:=Fe k ret a_have c
def oU {S:Type} (k:Nat) (ret:List Cl×Int→Option S) (l:List Cl) (rec0:(List Cl)→Int→Option S) (v1:List Cl) (v15:Int):Option S:=
 ab (decide ((v15:Int)<(l.length:Int))) (
 Option.bind (ar l v15) fun x1=>
 aa k (pW k v1 x1) fun r2=>
 ab (!(r2.2==0)) (
  ret (([]:List Cl),r2.2)) (
   rec0 r2.1 (IntKind.wrap .i64 (v15+1)))) (
 ret (v1,0))
noncomputable def kR {S:Type} (k:Nat) (ret:List Cl×Int→Option S) (l:List Cl):Nat→(List Cl)→Int→Option S
 |0=>fun _ _=> .none
 |m+1=>fun v1 v15=>oU k ret l (kR k ret l m) v1 v15
noncomputable def xl {S:Type} (k:Nat) (ret:List Cl×Int→Option S) (J0:(List Cl)→Int→Option S) (l a_from:List Cl):Option S:=
 J0 a_from 0
noncomputable def t6 {S:Type} (k:Nat) (l a_from:List Cl) (ret:List Cl×Int→Option S):Option S:=xl k ret (fun v1 v15=>kR k ret l k v1 v15) l a_from
noncomputable def Fc {S:Type} (k:Nat) (ret:List Cl×Int→Option S) (f:List Cl):Option S:=
 aa k (h8 k) fun r1=>
 aa k (t6 k f r1) fun r2=>
 ret (r2.1,r2.2)
noncomputable def ko {S:Type} (k:Nat) (f:List Cl) (ret:List Cl×Int→Option S):Option S:=Fc k ret f
def E8 {S:Type} (k:Nat) (ret:List Cl×Int→Option S) (f:List Cl):Option S:=
 aa k (kq k [f]) fun r1=>
 ab (!(r1==0)) (
 ret (([]:List Cl),r1)) (
 aa k (ko k f) fun r2=>
 ret (r2.1,r2.2))
noncomputable def pS {S:Type} (k:Nat) (f:List Cl) (ret:List Cl×Int→Option S):Option S:=E8 k ret f
def EZ {S:Type} (k:Nat) (ret:List Cl×Int→Option S) (f:List Cl):Option S:=
 aa k (pS k f) fun r1=>
 ab (!(r1.2==0)) (
 ret (([]:List Cl),r1.2)) (
 aa k (mM k r1.1) fun r2=>
 ret (r2.1,r2.2))
noncomputable def pK {S:Type} (k:Nat) (f:List Cl) (ret:List Cl×Int→Option S):Option S:=EZ k ret f
def oN {S:Type} (k:Nat) (ret:List Cl×Int→Option S) (i:Int) (a_r f:List Cl) (v29:Int) (v8:List Cl) (rec0:Int→(List Cl)→Option S) (g11:List Cl) (v13:Int):Option S:=
 ab (v13==0) (
 aa k (mO k v8 g11) fun r10=>
 ab (!(r10.2==0)) (
  ret (([]:List Cl),r10.2)) (
   rec0 (IntKind.wrap .i64 (v29+1)) r10.1)) (
 ab (!(v13==0)) (
  ret (([]:List Cl),v13)) (
   rec0 (IntKind.wrap .i64 (v29+1)) v8))
noncomputable def kK {S:Type} (k:Nat) (ret:List Cl×Int→Option S) (rec0:Int→(List Cl)→Option S) (i:Int) (a_r f:List Cl) (v29:Int) (v8:List Cl):Nat→(List Cl)→Int→Option S
 |0=>fun _ _=> .none
 |_+1=>fun g11 v13=>oN k ret i a_r f v29 v8 rec0 g11 v13
def l_ {S:Type} (k:Nat) (ret:List Cl×Int→Option S) (i:Int) (a_r f:List Cl) (J1:Int→(List Cl)→(List Cl)→Int→Option S) (rec0:Int→(List Cl)→Option S) (v29:Int) (v8:List Cl):Option S:=
 ab (decide ((v29:Int)<(f.length:Int))) (
 Option.bind (ar f v29) fun x4=>
 aa k (gD k x4.pos i) fun r5=>
 aa k (gD k x4.neg i) fun r6=>
 aa k (eZ k x4.pos i) fun r7=>
 ab (r7) (
  aa k (mM k a_r) fun r8=>
  ab (r8.2==0) (
  aa k (km k [(Cl.mk r5 r6)] r8.1) fun r9=>
    J1 v29 v8 r9.1 r9.2) (
    J1 v29 v8 [(Cl.mk r5 r6)] r8.2)) (
  aa k (eZ k x4.neg i) fun r11=>
  ab (r11) (
  aa k (pK k a_r) fun r12=>
  ab (r12.2==0) (
   aa k (km k [(Cl.mk r5 r6)] r12.1) fun r13=>
     J1 v29 v8 r13.1 r13.2) (
     J1 v29 v8 [(Cl.mk r5 r6)] r12.2)) (
    J1 v29 v8 [(Cl.mk r5 r6)] 0))) (
 ret (v8,0))
noncomputable def iF {S:Type} (k:Nat) (ret:List Cl×Int→Option S) (i:Int) (a_r f:List Cl):Nat→Int→(List Cl)→Option S
 |0=>fun _ _=> .none
 |m+1=>fun v29 v8=>l_ k ret i a_r f (fun v29 v8 g11 v13=>kK k ret (iF k ret i a_r f m) i a_r f v29 v8 k g11 v13) (iF k ret i a_r f m) v29 v8
def xa {S:Type} (k:Nat) (ret:List Cl×Int→Option S) (J0:Int→(List Cl)→Option S) (f:List Cl) (i:Int) (a_r:List Cl):Option S:=
 aa k (hY k f) fun r1=>
 ab (!r1) (
 ret (([]:List Cl),2)) (
 aa k (pM k i) fun r2=>
 ab (!r2) (
  ret (([]:List Cl),2)) (
  aa k (eY k a_r) fun r3=>
  ab (!r3) (
  ret (([]:List Cl),2)) (
    J0 0 [])))
noncomputable def pL {S:Type} (k:Nat) (f:List Cl) (i:Int) (a_r:List Cl) (ret:List Cl×Int→Option S):Option S:=xa k ret (fun v29 v8=>iF k ret i a_r f k v29 v8) f i a_r
def EQ {S:Type} (k:Nat) (ret:List Cl×Int→Option S) (f:List Cl) (depth c0:Int) (c1:List Cl):Option S:=
 aa k (kn k f) fun r1=>
 aa k (eZ k r1 (IntKind.wrap .i64 (c0+depth))) fun r2=>
 ab (!r2) (
 aa k (mI k f) fun r3=>
 ret (r3,0)) (
 aa k (hZ k c1 0 depth) fun r4=>
 ab (!(r4.2==0)) (
  ret (([]:List Cl),r4.2)) (
  aa k (pL k f (IntKind.wrap .i64 (c0+depth)) r4.1) fun r5=>
  ret (r5.1,r5.2)))
noncomputable def mJ {S:Type} (k:Nat) (f:List Cl) (depth c0:Int) (c1:List Cl) (ret:List Cl×Int→Option S):Option S:=EQ k ret f depth c0 c1
def E5 {S:Type} (k:Nat) (ret:List Cl×Int→Option S) (i:Int):Option S:=
 aa k (fP k 0 i) fun r1=>
 aa k (h9 k r1) fun r2=>
 ab (r2==0) (
 ret (([]:List Cl),2)) (
 aa k (fP k 0 i) fun r3=>
 ret ([(Cl.mk r3 0)],0))
noncomputable def pR {S:Type} (k:Nat) (i:Int) (ret:List Cl×Int→Option S):Option S:=E5 k ret i
noncomputable def Fb {S:Type} (k:Nat) (ret:List Cl×Int→Option S) (f g:List Cl):Option S:=
 Option.bind (aS 1099511627776 ([]:List Cl).length f.length) fun x1=>
 Option.bind (aS 1099511627776 (([]:List Cl)++f).length g.length) fun x2=>
 aa k (eL k ((([]:List Cl)++f)++g)) fun r3=>
 ret (r3.1,r3.2)
noncomputable def jv {S:Type} (k:Nat) (f g:List Cl) (ret:List Cl×Int→Option S):Option S:=Fb k ret f g
def E_ {S:Type} (k:Nat) (ret:List Cl×Int→Option S) (a_have:List Cl) (c:Cl) (c0:Int) (c1:List Cl):Option S:=
 aa k (gD k c.pos c0) fun r1=>
 aa k (gD k c.neg c0) fun r2=>
 aa k (eZ k c.pos c0) fun r3=>
 ab (r3) (
 aa k (gC k [(Cl.mk r1 r2)] c1) fun r4=>
 ab (!(r4.2==0)) (
  ret (([]:List Cl),r4.2)) (
  aa k (eZ k c.neg c0) fun r5=>
  ab (r5) (
  aa k (ko k c1) fun r6=>
  ab (!(r6.2==0)) (
   ret (([]:List Cl),r6.2)) (
   aa k (gC k r4.1 r6.1) fun r7=>
   ab (!(r7.2==0)) (
   ret (([]:List Cl),r7.2)) (
   aa k (jv k a_have r7.1) fun r8=>
   ret (r8.1,r8.2)))) (
  aa k (jv k a_have r4.1) fun r9=>
  ret (r9.1,r9.2)))) (
 aa k (eZ k c.neg c0) fun r10=>
 ab (r10) (
  aa k (ko k c1) fun r11=>
  ab (!(r11.2==0)) (
  ret (([]:List Cl),r11.2)) (
  aa k (gC k [(Cl.mk r1 r2)] r11.1) fun r12=>
  ab (!(r12.2==0)) (
   ret (([]:List Cl),r12.2)) (
   aa k (jv k a_have r12.1) fun r13=>
   ret (r13.1,r13.2)))) (
  aa k (jv k a_have [(Cl.mk r1 r2)]) fun r14=>
  ret (r14.1,r14.2)))
noncomputable def pU {S:Type} (k:Nat) (a_have:List Cl) (c:Cl) (c0:Int) (c1:List Cl) (ret:List Cl×Int→Option S):Option S:=E_ k ret a_have c c0 c1
def oT {S:Type} (k:Nat) (ret:List Cl×Int→Option S) (c0:Int) (c1 l:List Cl) (rec0:(List Cl)→Int→Option S) (v1:List Cl) (v15:Int):Option S:=
 ab (decide ((v15:Int)<(l.length:Int))) (
 Option.bind (ar l v15) fun x1=>
 aa k (pU k v1 x1 c0 c1) fun r2=>
 ab (!(r2.2==0)) (
  ret (([]:List Cl),r2.2)) (
   rec0 r2.1 (IntKind.wrap .i64 (v15+1)))) (
 ret (v1,0))
noncomputable def kQ {S:Type} (k:Nat) (ret:List Cl×Int→Option S) (c0:Int) (c1 l:List Cl):Nat→(List Cl)→Int→Option S
 |0=>fun _ _=> .none
 |m+1=>fun v1 v15=>oT k ret c0 c1 l (kQ k ret c0 c1 l m) v1 v15
noncomputable def xk {S:Type} (k:Nat) (ret:List Cl×Int→Option S) (J0:(List Cl)→Int→Option S) (l a_from:List Cl) (c0:Int) (c1:List Cl):Option S:=
 J0 a_from 0
noncomputable def tZ {S:Type} (k:Nat) (l a_from:List Cl) (c0:Int) (c1:List Cl) (ret:List Cl×Int→Option S):Option S:=xk k ret (fun v1 v15=>kQ k ret c0 c1 l k v1 v15) l a_from c0 c1
def E9 {S:Type} (k:Nat) (ret:List Cl×Int→Option S) (f:List Cl) (i:Int) (a_r:List Cl):Option S:=
 aa k (kq k [f,a_r]) fun r1=>
 ab (!(r1==0)) (
 ret (([]:List Cl),r1)) (
 aa k (pR k i) fun r2=>
 ab (!(r2.2==0)) (
  ret (([]:List Cl),r2.2)) (
  aa k (ju k) fun r3=>
  aa k (tZ k f r3 i a_r) fun r4=>
  ret (r4.1,r4.2)))
noncomputable def pT {S:Type} (k:Nat) (f:List Cl) (i:Int) (a_r:List Cl) (ret:List Cl×Int→Option S):Option S:=E9 k ret f i a_r
def EP {S:Type} (k:Nat) (ret:List Cl×Int→Option S) (f:List Cl) (depth c0:Int) (c1:List Cl):Option S:=
 aa k (kn k f) fun r1=>
 aa k (eZ k r1 (IntKind.wrap .i64 (c0+depth))) fun r2=>
 ab (!r2) (
 aa k (mI k f) fun r3=>
 ret (r3,0)) (
 aa k (hZ k c1 0 depth) fun r4=>
 ab (!(r4.2==0)) (
  ret (([]:List Cl),r4.2)) (
  aa k (pT k f (IntKind.wrap .i64 (c0+depth)) r4.1) fun r5=>
  ret (r5.1,r5.2)))
noncomputable def pG {S:Type} (k:Nat) (f:List Cl) (depth c0:Int) (c1:List Cl) (ret:List Cl×Int→Option S):Option S:=EP k ret f depth c0 c1
def EU {S:Type} (k:Nat) (ret:List Cl×Int→Option S) (t:Tm) (depth c0:Int) (c1:List Cl):Option S:=
 ab (t.kind==14) (
 aa k (mJ k t.r depth c0 c1) fun r1=>
 ret (r1.1,r1.2)) (
 aa k (pG k t.r depth c0 c1) fun r2=>
 ret (r2.1,r2.2))
noncomputable def pH {S:Type} (k:Nat) (t:Tm) (depth c0:Int) (c1:List Cl) (ret:List Cl×Int→Option S):Option S:=EU k ret t depth c0 c1
noncomputable def w7 {S:Type} (k:Nat) (ret:Int→Option S) (i:Int) (c0:Tm):Option S:=
 aa k (ic k c0.kind i) fun r1=>
 ret r1.2
noncomputable def mK {S:Type} (k:Nat) (i:Int) (c0:Tm) (ret:Int→Option S):Option S:=w7 k ret i c0
noncomputable def w8 {S:Type} (k:Nat) (ret:Int→Option S) (p c0:Int):Option S:=
 ret c0
noncomputable def mL {S:Type} (k:Nat) (p c0:Int) (ret:Int→Option S):Option S:=w8 k ret p c0
abbrev b9 (S:Type):=Tm→Int→Int→(List Cl)→(Tm×Int→Option S)→Option S
def oJ {S:Type} (hd:b9 S) (k:Nat) (ret:List Tm×Int→Option S) (c0:Int) (c1:List Cl) (c4:Int) (l:List Tm) (depth:Int) (rec0:(List Tm)→Int→Option S) (out10:List Tm) (v17:Int):Option S:=
 ab (decide ((v17:Int)<(l.length:Int))) (
 Option.bind (ar l v17) fun x1=>
 aa k (mL k v17 c4) fun r2=>
 hd (ad x1) (IntKind.wrap .i64 (depth+r2)) c0 c1 fun r3=>
 ab (!(r3.2==0)) (
  ret (([]:List Tm),r3.2)) (
  Option.bind (aS 1099511627776 out10.length [(ad r3.1)].length) fun x4=>
   rec0 (out10++[(ad r3.1)]) (IntKind.wrap .i64 (v17+1)))) (
 ret (out10,0))
noncomputable def iD {S:Type} (hd:b9 S) (k:Nat) (ret:List Tm×Int→Option S) (c0:Int) (c1:List Cl) (c4:Int) (l:List Tm) (depth:Int):Nat→(List Tm)→Int→Option S
 |0=>fun _ _=> .none
 |m+1=>fun out10 v17=>oJ hd k ret c0 c1 c4 l depth (iD hd k ret c0 c1 c4 l depth m) out10 v17
noncomputable def w5 {S:Type} (hd:b9 S) (k:Nat) (ret:List Tm×Int→Option S) (J0:(List Tm)→Int→Option S) (l:List Tm) (depth c0:Int) (c1:List Cl) (c4:Int):Option S:=
 J0 ([]:List Tm) 0
noncomputable def tV {S:Type} (hd:b9 S) (k:Nat) (l:List Tm) (depth c0:Int) (c1:List Cl) (c4:Int) (ret:List Tm×Int→Option S):Option S:=w5 hd k ret (fun out10 v17=>iD hd k ret c0 c1 c4 l depth k out10 v17) l depth c0 c1 c4
def oK {S:Type} (hd:b9 S) (k:Nat) (ret:List Tm×Int→Option S) (c0:Int) (c1:List Cl) (c4:Tm) (l:List Tm) (depth:Int) (rec0:(List Tm)→Int→Option S) (out10:List Tm) (v17:Int):Option S:=
 ab (decide ((v17:Int)<(l.length:Int))) (
 Option.bind (ar l v17) fun x1=>
 aa k (mK k v17 (ad c4)) fun r2=>
 hd (ad x1) (IntKind.wrap .i64 (depth+r2)) c0 c1 fun r3=>
 ab (!(r3.2==0)) (
  ret (([]:List Tm),r3.2)) (
  Option.bind (aS 1099511627776 out10.length [(ad r3.1)].length) fun x4=>
   rec0 (out10++[(ad r3.1)]) (IntKind.wrap .i64 (v17+1)))) (
 ret (out10,0))
noncomputable def iE {S:Type} (hd:b9 S) (k:Nat) (ret:List Tm×Int→Option S) (c0:Int) (c1:List Cl) (c4:Tm) (l:List Tm) (depth:Int):Nat→(List Tm)→Int→Option S
 |0=>fun _ _=> .none
 |m+1=>fun out10 v17=>oK hd k ret c0 c1 c4 l depth (iE hd k ret c0 c1 c4 l depth m) out10 v17
noncomputable def w6 {S:Type} (hd:b9 S) (k:Nat) (ret:List Tm×Int→Option S) (J0:(List Tm)→Int→Option S) (l:List Tm) (depth c0:Int) (c1:List Cl) (c4:Tm):Option S:=
 J0 ([]:List Tm) 0
noncomputable def tW {S:Type} (hd:b9 S) (k:Nat) (l:List Tm) (depth c0:Int) (c1:List Cl) (c4:Tm) (ret:List Tm×Int→Option S):Option S:=w6 hd k ret (fun out10 v17=>iE hd k ret c0 c1 c4 l depth k out10 v17) l depth c0 c1 c4
def oL {S:Type} (hd:b9 S) (k:Nat) (ret:Tm×Int→Option S) (c0:Int) (c1:List Cl) (t:Tm) (r1:List Cl×Int) (r2:List Tm×Int) (depth:Int) (rec0:Int→(List (Br Tm))→Int→Option S) (b10_0:Int) (b8_5:List (Br Tm)) (v55:Int):Option S:=
 ab (decide ((v55:Int)<(t.sys.length:Int))) (
 Option.bind (ar t.sys v55) fun x3=>
 aa k (mJ k x3.face depth c0 c1) fun r4=>
 ab (!(r4.2==0)) (
  ret ((Tm.mk 0 0 ByteArray.empty [] [] []),r4.2)) (
  ab ((r4.1.length:Int)==0) (
    rec0 b10_0 b8_5 (IntKind.wrap .i64 (v55+1))) (
  aa k (tV hd k x3.kids depth c0 c1 b10_0) fun r5=>
  ab (!(r5.2==0)) (
   ret ((Tm.mk 0 0 ByteArray.empty [] [] []),r5.2)) (
   Option.bind (aS 1099511627776 b8_5.length [(Br.mk r4.1 r5.1)].length) fun x6=>
     rec0 b10_0 (b8_5++[(Br.mk r4.1 r5.1)]) (IntKind.wrap .i64 (v55+1)))))) (
 ret ((Tm.mk t.kind t.n t.name r1.1 r2.1 b8_5),0))
noncomputable def eh {S:Type} (hd:b9 S) (k:Nat) (ret:Tm×Int→Option S) (c0:Int) (c1:List Cl) (t:Tm) (r1:List Cl×Int) (r2:List Tm×Int) (depth:Int):Nat→Int→(List (Br Tm))→Int→Option S
 |0=>fun _ _ _=> .none
 |m+1=>fun b10_0 b8_5 v55=>oL hd k ret c0 c1 t r1 r2 depth (eh hd k ret c0 c1 t r1 r2 depth m) b10_0 b8_5 v55
def w9 {S:Type} (hd:b9 S) (k:Nat) (ret:Tm×Int→Option S) (J0:(List Cl×Int)→(List Tm×Int)→Int→(List (Br Tm))→Int→Option S) (t:Tm) (depth c0:Int) (c1:List Cl):Option S:=
 aa k (pH k (ad t) depth c0 c1) fun r1=>
 ab (!(r1.2==0)) (
 ret ((Tm.mk 0 0 ByteArray.empty [] [] []),r1.2)) (
 aa k (tW hd k t.kids depth c0 c1 (ad t)) fun r2=>
 ab (!(r2.2==0)) (
  ret ((Tm.mk 0 0 ByteArray.empty [] [] []),r2.2)) (
  ab (t.kind==15) (
    J0 r1 r2 1 ([]:List (Br Tm)) 0) (
    J0 r1 r2 0 ([]:List (Br Tm)) 0)))
noncomputable def cX {S:Type}:Nat→Tm→Int→Int→(List Cl)→(Tm×Int→Option S)→Option S
 |0=>fun _ _ _ _ _=> .none
 |k+1=>fun t depth c0 c1 ret=>w9 (cX k) k ret (fun r1 r2 b10_0 b8_5 v55=>eh (cX k) k ret c0 c1 t r1 r2 depth k b10_0 b8_5 v55) t depth c0 c1
noncomputable def EM {S:Type} (k:Nat) (ret:Int→Option S) (i:Int):Option S:=
 ret i
noncomputable def tO {S:Type} (k:Nat) (i:Int) (ret:Int→Option S):Option S:=EM k ret i
def Fp {S:Type} (k:Nat) (ret:Int→Option S) (s i:Int):Option S:=
 aa k (jx k i) fun r1=>
 ab (!r1) (
 ret (aJ .and .u32 s 16777215)) (
 aa k (kw k i) fun r2=>
 Option.bind (bW (0≤(IntKind.wrap .u64 (IntKind.wrap .i64 (i+1))))) fun x3=>
 Option.bind (bW (0≤(IntKind.wrap .u64 i))) fun x4=>
 ret (aJ .or .u32 (aJ .and .u32 (aJ .and .u32 s 16777215) r2) (IntKind.wrap .u32 ((Int.fdiv (aJ .and .u32 s 16777215) (2^min (Int.toNat (IntKind.wrap .u64 (IntKind.wrap .i64 (i+1)))) 32))*2^min (Int.toNat (IntKind.wrap .u64 i)) 32))))
noncomputable def kr {S:Type} (k:Nat) (s i:Int) (ret:Int→Option S):Option S:=Fp k ret s i
def oG {S:Type} (k:Nat) (ret:List Cl×Int→Option S) (c0 depth:Int) (f:List Cl) (rec0:Int→(List Cl)→Option S) (v12:Int) (out7:List Cl):Option S:=
 ab (decide ((v12:Int)<(f.length:Int))) (
 Option.bind (ar f v12) fun x1=>
 aa k (kr k x1.pos (IntKind.wrap .i64 (c0+depth))) fun r2=>
 aa k (kr k x1.neg (IntKind.wrap .i64 (c0+depth))) fun r3=>
 Option.bind (aS 1099511627776 out7.length [(Cl.mk r2 r3)].length) fun x4=>
  rec0 (IntKind.wrap .i64 (v12+1)) (out7++[(Cl.mk r2 r3)])) (
 aa k (eL k out7) fun r5=>
 ret (r5.1,r5.2))
noncomputable def kJ {S:Type} (k:Nat) (ret:List Cl×Int→Option S) (c0 depth:Int) (f:List Cl):Nat→Int→(List Cl)→Option S
 |0=>fun _ _=> .none
 |m+1=>fun v12 out7=>oG k ret c0 depth f (kJ k ret c0 depth f m) v12 out7
noncomputable def wW {S:Type} (k:Nat) (ret:List Cl×Int→Option S) (J0:Int→(List Cl)→Option S) (f:List Cl) (depth c0:Int):Option S:=
 J0 0 ([]:List Cl)
noncomputable def kl {S:Type} (k:Nat) (f:List Cl) (depth c0:Int) (ret:List Cl×Int→Option S):Option S:=wW k ret (fun v12 out7=>kJ k ret c0 depth f k v12 out7) f depth c0
def EV {S:Type} (k:Nat) (ret:List Cl×Int→Option S) (t:Tm) (depth c0:Int):Option S:=
 ab (t.kind==14) (
 aa k (kl k t.r depth c0) fun r1=>
 ret (r1.1,r1.2)) (
 aa k (kl k t.r depth c0) fun r2=>
 ret (r2.1,r2.2))
noncomputable def pI {S:Type} (k:Nat) (t:Tm) (depth c0:Int) (ret:List Cl×Int→Option S):Option S:=EV k ret t depth c0
abbrev b_ (S:Type):=Tm→Int→Int→(Tm×Int→Option S)→Option S
def oH {S:Type} (hd:b_ S) (k:Nat) (ret:List Tm×Int→Option S) (c0 c1:Int) (l:List Tm) (depth:Int) (rec0:(List Tm)→Int→Option S) (out10:List Tm) (v17:Int):Option S:=
 ab (decide ((v17:Int)<(l.length:Int))) (
 Option.bind (ar l v17) fun x1=>
 aa k (mL k v17 c1) fun r2=>
 hd (ad x1) (IntKind.wrap .i64 (depth+r2)) c0 fun r3=>
 ab (!(r3.2==0)) (
  ret (([]:List Tm),r3.2)) (
  Option.bind (aS 1099511627776 out10.length [(ad r3.1)].length) fun x4=>
   rec0 (out10++[(ad r3.1)]) (IntKind.wrap .i64 (v17+1)))) (
 ret (out10,0))
noncomputable def iA {S:Type} (hd:b_ S) (k:Nat) (ret:List Tm×Int→Option S) (c0 c1:Int) (l:List Tm) (depth:Int):Nat→(List Tm)→Int→Option S
 |0=>fun _ _=> .none
 |m+1=>fun out10 v17=>oH hd k ret c0 c1 l depth (iA hd k ret c0 c1 l depth m) out10 v17
noncomputable def wY {S:Type} (hd:b_ S) (k:Nat) (ret:List Tm×Int→Option S) (J0:(List Tm)→Int→Option S) (l:List Tm) (depth c0 c1:Int):Option S:=
 J0 ([]:List Tm) 0
noncomputable def tT {S:Type} (hd:b_ S) (k:Nat) (l:List Tm) (depth c0 c1:Int) (ret:List Tm×Int→Option S):Option S:=wY hd k ret (fun out10 v17=>iA hd k ret c0 c1 l depth k out10 v17) l depth c0 c1
def oI {S:Type} (hd:b_ S) (k:Nat) (ret:List Tm×Int→Option S) (c0:Int) (c1:Tm) (l:List Tm) (depth:Int) (rec0:(List Tm)→Int→Option S) (out10:List Tm) (v17:Int):Option S:=
 ab (decide ((v17:Int)<(l.length:Int))) (
 Option.bind (ar l v17) fun x1=>
 aa k (mK k v17 (ad c1)) fun r2=>
 hd (ad x1) (IntKind.wrap .i64 (depth+r2)) c0 fun r3=>
 ab (!(r3.2==0)) (
  ret (([]:List Tm),r3.2)) (
  Option.bind (aS 1099511627776 out10.length [(ad r3.1)].length) fun x4=>
   rec0 (out10++[(ad r3.1)]) (IntKind.wrap .i64 (v17+1)))) (
 ret (out10,0))
noncomputable def iC {S:Type} (hd:b_ S) (k:Nat) (ret:List Tm×Int→Option S) (c0:Int) (c1:Tm) (l:List Tm) (depth:Int):Nat→(List Tm)→Int→Option S
 |0=>fun _ _=> .none
 |m+1=>fun out10 v17=>oI hd k ret c0 c1 l depth (iC hd k ret c0 c1 l depth m) out10 v17
noncomputable def wZ {S:Type} (hd:b_ S) (k:Nat) (ret:List Tm×Int→Option S) (J0:(List Tm)→Int→Option S) (l:List Tm) (depth c0:Int) (c1:Tm):Option S:=
 J0 ([]:List Tm) 0
noncomputable def tU {S:Type} (hd:b_ S) (k:Nat) (l:List Tm) (depth c0:Int) (c1:Tm) (ret:List Tm×Int→Option S):Option S:=wZ hd k ret (fun out10 v17=>iC hd k ret c0 c1 l depth k out10 v17) l depth c0 c1
def oM {S:Type} (hd:b_ S) (k:Nat) (ret:Tm×Int→Option S) (c0:Int) (t:Tm) (r1:List Cl×Int) (r2:List Tm×Int) (depth:Int) (rec0:Int→(List (Br Tm))→Int→Option S) (b10_0:Int) (b8_5:List (Br Tm)) (v55:Int):Option S:=
 ab (decide ((v55:Int)<(t.sys.length:Int))) (
 Option.bind (ar t.sys v55) fun x3=>
 aa k (kl k x3.face depth c0) fun r4=>
 ab (!(r4.2==0)) (
  ret ((Tm.mk 0 0 ByteArray.empty [] [] []),r4.2)) (
  ab ((r4.1.length:Int)==0) (
    rec0 b10_0 b8_5 (IntKind.wrap .i64 (v55+1))) (
  aa k (tT hd k x3.kids depth c0 b10_0) fun r5=>
  ab (!(r5.2==0)) (
   ret ((Tm.mk 0 0 ByteArray.empty [] [] []),r5.2)) (
   Option.bind (aS 1099511627776 b8_5.length [(Br.mk r4.1 r5.1)].length) fun x6=>
     rec0 b10_0 (b8_5++[(Br.mk r4.1 r5.1)]) (IntKind.wrap .i64 (v55+1)))))) (
 ret ((Tm.mk t.kind t.n t.name r1.1 r2.1 b8_5),0))
noncomputable def ei {S:Type} (hd:b_ S) (k:Nat) (ret:Tm×Int→Option S) (c0:Int) (t:Tm) (r1:List Cl×Int) (r2:List Tm×Int) (depth:Int):Nat→Int→(List (Br Tm))→Int→Option S
 |0=>fun _ _ _=> .none
 |m+1=>fun b10_0 b8_5 v55=>oM hd k ret c0 t r1 r2 depth (ei hd k ret c0 t r1 r2 depth m) b10_0 b8_5 v55
def w_ {S:Type} (hd:b_ S) (k:Nat) (ret:Tm×Int→Option S) (J0:(List Cl×Int)→(List Tm×Int)→Int→(List (Br Tm))→Int→Option S) (t:Tm) (depth c0:Int):Option S:=
 aa k (pI k (ad t) depth c0) fun r1=>
 ab (!(r1.2==0)) (
 ret ((Tm.mk 0 0 ByteArray.empty [] [] []),r1.2)) (
 aa k (tU hd k t.kids depth c0 (ad t)) fun r2=>
 ab (!(r2.2==0)) (
  ret ((Tm.mk 0 0 ByteArray.empty [] [] []),r2.2)) (
  ab (t.kind==15) (
    J0 r1 r2 1 ([]:List (Br Tm)) 0) (
    J0 r1 r2 0 ([]:List (Br Tm)) 0)))
noncomputable def cR {S:Type}:Nat→Tm→Int→Int→(Tm×Int→Option S)→Option S
 |0=>fun _ _ _ _=> .none
 |k+1=>fun t depth c0 ret=>w_ (cR k) k ret (fun r1 r2 b10_0 b8_5 v55=>ei (cR k) k ret c0 t r1 r2 depth k b10_0 b8_5 v55) t depth c0
def EJ {S:Type} (k:Nat) (ret:Tm×Int→Option S) (t:Tm) (i:Int) (a_r:List Cl):Option S:=
 aa k (tX k (ad t) i a_r) fun r1=>
 ab (!(r1==0)) (
 ret ((Tm.mk 0 0 ByteArray.empty [] [] []),r1)) (
 aa k (hZ k a_r i 1) fun r2=>
 ab (!(r2.2==0)) (
  ret ((Tm.mk 0 0 ByteArray.empty [] [] []),r2.2)) (
  aa k (tP k i r2.1) fun r3=>
  cX k (ad t) 0 r3.1 r3.2 fun r4=>
  ab (!(r4.2==0)) (
  ret ((Tm.mk 0 0 ByteArray.empty [] [] []),r4.2)) (
  aa k (tO k i) fun r5=>
  cR k (ad r4.1) 0 r5 fun r6=>
  ret ((ad r6.1),r6.2))))
noncomputable def hX {S:Type} (k:Nat) (t:Tm) (i:Int) (a_r:List Cl) (ret:Tm×Int→Option S):Option S:=EJ k ret t i a_r
def wQ {S:Type} (k:Nat) (ret:Tm×Int→Option S) (line:Tm) (a_r:List Cl) (c0:Int):Option S:=
 aa k (cG k c0) fun r1=>
 ab (!r1) (
 ret ((Tm.mk 0 0 ByteArray.empty [] [] []),c0)) (
 aa k (p5 k (ad line) 1 2) fun r2=>
 aa k (eX k r2.2 c0) fun r3=>
 aa k (cG k r3) fun r4=>
 ab (!r4) (
  ret ((Tm.mk 0 0 ByteArray.empty [] [] []),r3)) (
  aa k (hX k (ad r2.1) 0 a_r) fun r5=>
  aa k (eX k r5.2 r3) fun r6=>
  ret ((ad r5.1),r6)))
noncomputable def gz {S:Type} (k:Nat) (line:Tm) (a_r:List Cl) (c0:Int) (ret:Tm×Int→Option S):Option S:=wQ k ret line a_r c0
noncomputable def Fj {S:Type} (k:Nat) (ret:Pan Int Tm→Option S) (c0 c1:Int) (c2:Tm):Option S:=
 cH k c1 0 (ad c2) 0 0 fun r2=>Pan.elim r2 (fun r2=>
 cH k 0 c0 (ad r2) 0 0 fun r5=>Pan.elim r5 (fun r5=>
  ret (.ok (ad r5))) (fun e6=>
  ret (.pan e6))) (fun e3=>
 ret (.pan e3))
noncomputable def p4 {S:Type} (k:Nat) (c0 c1:Int) (c2:Tm) (ret:Pan Int Tm→Option S):Option S:=Fj k ret c0 c1 c2
def o9 {S:Type} (k:Nat) (ret:Tm×Int→Option S) (c0 c1:Int) (c2:Tm) (numbers:List Int) (rec0:Int→Option S) (v19:Int):Option S:=
 ab (decide ((v19:Int)<(numbers.length:Int))) (
 Option.bind (ar numbers v19) fun x2=>
 ab (decide ((x2:Int)<0)) (
  ret ((Tm.mk 0 0 ByteArray.empty [] [] []),2)) (
   rec0 (IntKind.wrap .i64 (v19+1)))) (
 aa k (p4 k c0 c1 (ad c2)) fun r4=>Pan.elim r4 (fun r4=>
  ret ((ad r4),0)) (fun e5=>
  ret ((Tm.mk 0 0 ByteArray.empty [] [] []),e5)))
noncomputable def jK {S:Type} (k:Nat) (ret:Tm×Int→Option S) (c0 c1:Int) (c2:Tm) (numbers:List Int):Nat→Int→Option S
 |0=>fun _=> .none
 |m+1=>fun v19=>o9 k ret c0 c1 c2 numbers (jK k ret c0 c1 c2 numbers m) v19
def xw {S:Type} (k:Nat) (ret:Tm×Int→Option S) (J0:Int→Option S) (t:Tm) (numbers:List Int) (c0 c1:Int) (c2:Tm):Option S:=
 aa k (ie k (ad t)) fun r1=>
 ab (!(r1==0)) (
 ret ((Tm.mk 0 0 ByteArray.empty [] [] []),r1)) (
  J0 0)
noncomputable def ua {S:Type} (k:Nat) (t:Tm) (numbers:List Int) (c0 c1:Int) (c2:Tm) (ret:Tm×Int→Option S):Option S:=xw k ret (fun v19=>jK k ret c0 c1 c2 numbers k v19) t numbers c0 c1 c2
noncomputable def Fi {S:Type} (k:Nat) (ret:Tm×Int→Option S) (t:Tm) (vars dims:Int):Option S:=
 aa k (ua k (ad t) [vars,dims,IntKind.wrap .i64 (1000000-vars)] dims vars (ad t)) fun r1=>
 ret ((ad r1.1),r1.2)
noncomputable def p3 {S:Type} (k:Nat) (t:Tm) (vars dims:Int) (ret:Tm×Int→Option S):Option S:=Fi k ret t vars dims
def wU {S:Type} (k:Nat) (ret:Tm×Int→Option S) (t:Tm) (vars dims c0:Int):Option S:=
 aa k (cG k c0) fun r1=>
 ab (!r1) (
 ret ((Tm.mk 0 0 ByteArray.empty [] [] []),c0)) (
 aa k (p3 k (ad t) vars dims) fun r2=>
 aa k (eX k r2.2 c0) fun r3=>
 ret ((ad r2.1),r3))
noncomputable def dN {S:Type} (k:Nat) (t:Tm) (vars dims c0:Int) (ret:Tm×Int→Option S):Option S:=wU k ret t vars dims c0
noncomputable def j6 {S:Type} (k:Nat) (ret:Int×Int×ByteArray×List Tm→Option S) (kind:Int) (kids:List Tm):Option S:=
 ret (kind,0,ByteArray.empty,kids)
noncomputable def bN {S:Type} (k:Nat) (kind:Int) (kids:List Tm) (ret:Int×Int×ByteArray×List Tm→Option S):Option S:=j6 k ret kind kids
def wR {S:Type} (k:Nat) (ret:Tm×Int×Int→Option S) (t:Tm) (c0:Int):Option S:=
 aa k (cG k c0) fun r1=>
 ab (r1) (
 aa k (ie k (ad t)) fun r2=>
 aa k (eX k r2 c0) fun r3=>
 aa k (cG k r3) fun r4=>
 ab (!r4) (
  ret ((Tm.mk 0 0 ByteArray.empty [] [] []),r3,r3)) (
  ret ((ad t),0,r3))) (
 aa k (cG k c0) fun r5=>
 ab (!r5) (
  ret ((Tm.mk 0 0 ByteArray.empty [] [] []),c0,c0)) (
  ret ((ad t),0,c0)))
noncomputable def eK {S:Type} (k:Nat) (t:Tm) (c0:Int) (ret:Tm×Int×Int→Option S):Option S:=wR k ret t c0
def EA {S:Type} (k:Nat) (ret:Tm×Int→Option S) (line:Tm) (phi:List Cl) (a:Tm) (a_end:Cl) (a_r:List Cl):Option S:=
 aa k (mF k [(ad line),(ad a)]) fun r1=>
 aa k (hY k phi) fun r2=>
 ab (!r2) (
 aa k (eX k 2 r1) fun r3=>
 aa k (gA k phi r3) fun r4=>
 aa k (hU k r4.1 [a_end] r4.2) fun r5=>
 aa k (gz k (ad line) a_r r5.2) fun r6=>
 aa k (dN k (ad a) 0 1 r6.2) fun r7=>
 aa k (bN k 14 [(ad r6.1),(ad r7.1)]) fun r8=>
 aa k (eK k (Tm.mk r8.1 r8.2.1 r8.2.2.1 r5.1 r8.2.2.2 []) r7.2) fun r9=>
 ret ((ad r9.1),r9.2.1)) (
 aa k (gA k phi r1) fun r10=>
 aa k (hU k r10.1 [a_end] r10.2) fun r11=>
 aa k (gz k (ad line) a_r r11.2) fun r12=>
 aa k (dN k (ad a) 0 1 r12.2) fun r13=>
 aa k (bN k 14 [(ad r12.1),(ad r13.1)]) fun r14=>
 aa k (eK k (Tm.mk r14.1 r14.2.1 r14.2.2.1 r11.1 r14.2.2.2 []) r13.2) fun r15=>
 ret ((ad r15.1),r15.2.1))
noncomputable def mE {S:Type} (k:Nat) (line:Tm) (phi:List Cl) (a:Tm) (a_end:Cl) (a_r:List Cl) (ret:Tm×Int→Option S):Option S:=EA k ret line phi a a_end a_r
noncomputable def Ez {S:Type} (k:Nat) (ret:Tm×Int→Option S) (line:Tm) (phi:List Cl) (a:Tm):Option S:=
 aa k (mE k (ad line) phi (ad a) (Cl.mk 0 1) [(Cl.mk 3 0)]) fun r1=>
 ret ((ad r1.1),r1.2)
noncomputable def mD {S:Type} (k:Nat) (line:Tm) (phi:List Cl) (a:Tm) (ret:Tm×Int→Option S):Option S:=Ez k ret line phi a
noncomputable def R6 {S:Type} (k:Nat) (ret:Int×Int×ByteArray×List Tm×List (Br Tm)→Option S) (sys:List (Br Tm)):Option S:=
 aa k (bN k 3 ([]:List Tm)) fun r1=>
 aa k (bN k 3 ([]:List Tm)) fun r2=>
 ret (15,0,ByteArray.empty,[(Tm.mk r1.1 r1.2.1 r1.2.2.1 [] r1.2.2.2 []),(Tm.mk r2.1 r2.2.1 r2.2.2.1 [] r2.2.2.2 [])],sys)
noncomputable def yP {S:Type} (k:Nat) (sys:List (Br Tm)) (ret:Int×Int×ByteArray×List Tm×List (Br Tm)→Option S):Option S:=R6 k ret sys
def yn {S:Type} (k:Nat) (ret:Tm×Int→Option S) (a:Tm) (r5:Int×Int×ByteArray×List Tm) (sys:List (Br Tm)) (rec0:Int→(List (Br Tm))→Int→Option S) (b19000_0:Int) (b9_5:List (Br Tm)) (v29:Int):Option S:=
 ab (decide ((v29:Int)<(sys.length:Int))) (
 Option.bind (ar sys v29) fun x6=>
 aa k (cG k b19000_0) fun r7=>
 ab (!r7) (
  aa k (dN k (ad a) 0 2 b19000_0) fun r8=>
  Option.bind (aS 1099511627776 b9_5.length [(Br.mk [(Cl.mk 0 1)] [(ad r8.1)])].length) fun x9=>
  aa k (eK k (Tm.mk r5.1 r5.2.1 r5.2.2.1 [] r5.2.2.2 (b9_5++[(Br.mk [(Cl.mk 0 1)] [(ad r8.1)])])) r8.2) fun r10=>
  ret ((ad r10.1),r10.2.1)) (
  aa k (gA k x6.face b19000_0) fun r11=>
  Option.bind (ar x6.kids 0) fun x12=>
  aa k (gz k (ad x12) [(Cl.mk 3 0)] r11.2) fun r13=>
  Option.bind (aS 1099511627776 b9_5.length [(Br.mk r11.1 [(ad r13.1)])].length) fun x14=>
   rec0 r13.2 (b9_5++[(Br.mk r11.1 [(ad r13.1)])]) (IntKind.wrap .i64 (v29+1)))) (
 aa k (dN k (ad a) 0 2 b19000_0) fun r15=>
 Option.bind (aS 1099511627776 b9_5.length [(Br.mk [(Cl.mk 0 1)] [(ad r15.1)])].length) fun x16=>
 aa k (eK k (Tm.mk r5.1 r5.2.1 r5.2.2.1 [] r5.2.2.2 (b9_5++[(Br.mk [(Cl.mk 0 1)] [(ad r15.1)])])) r15.2) fun r17=>
 ret ((ad r17.1),r17.2.1))
noncomputable def uW {S:Type} (k:Nat) (ret:Tm×Int→Option S) (a:Tm) (r5:Int×Int×ByteArray×List Tm) (sys:List (Br Tm)):Nat→Int→(List (Br Tm))→Int→Option S
 |0=>fun _ _ _=> .none
 |m+1=>fun b19000_0 b9_5 v29=>yn k ret a r5 sys (uW k ret a r5 sys m) b19000_0 b9_5 v29
noncomputable def Ey {S:Type} (k:Nat) (ret:Tm×Int→Option S) (J0:(Int×Int×ByteArray×List Tm)→Int→(List (Br Tm))→Int→Option S) (t a:Tm) (sys:List (Br Tm)):Option S:=
 aa k (yP k sys) fun r1=>
 aa k (mF k [(ad t),(ad a),(Tm.mk r1.1 r1.2.1 r1.2.2.1 [] r1.2.2.2.1 r1.2.2.2.2)]) fun r2=>
 aa k (dN k (ad t) 0 1 r2) fun r3=>
 aa k (dN k (ad a) 0 1 r3.2) fun r4=>
 aa k (bN k 15 [(ad r3.1),(ad r4.1)]) fun r5=>
 J0 r5 r4.2 ([]:List (Br Tm)) 0
noncomputable def yN {S:Type} (k:Nat) (t a:Tm) (sys:List (Br Tm)) (ret:Tm×Int→Option S):Option S:=Ey k ret (fun r5 b19000_0 b9_5 v29=>uW k ret a r5 sys k b19000_0 b9_5 v29) t a sys
def pb {S:Type} (k:Nat) (ret:Bool→Option S) (a b:List Cl) (rec0:Int→Option S) (i5:Int):Option S:=
 ab (decide ((i5:Int)<(a.length:Int))) (
 Option.bind (ar a i5) fun x1=>
 Option.bind (ar b i5) fun x2=>
 ab (!((x1.pos==x2.pos)&&((x1.neg==x2.neg)&&true))) (
  ret false) (
   rec0 (IntKind.wrap .i64 (i5+1)))) (
 ret true)
noncomputable def kX {S:Type} (k:Nat) (ret:Bool→Option S) (a b:List Cl):Nat→Int→Option S
 |0=>fun _=> .none
 |m+1=>fun i5=>pb k ret a b (kX k ret a b m) i5
def xz {S:Type} (k:Nat) (ret:Bool→Option S) (J0:Int→Option S) (a b:List Cl):Option S:=
 ab (!((a.length:Int)==(b.length:Int))) (
 ret false) (
  J0 0)
noncomputable def e9 {S:Type} (k:Nat) (a b:List Cl) (ret:Bool→Option S):Option S:=xz k ret (fun i5=>kX k ret a b k i5) a b
noncomputable def R5 {S:Type} (k:Nat) (ret:Int×Int×ByteArray→Option S) (a_n:Int):Option S:=
 ret (1,a_n,ByteArray.empty)
noncomputable def jt {S:Type} (k:Nat) (a_n:Int) (ret:Int×Int×ByteArray→Option S):Option S:=R5 k ret a_n
noncomputable def R4 {S:Type} (k:Nat) (ret:Int×Int×ByteArray×List Cl×List Tm→Option S) (a_r:List Cl):Option S:=
 aa k (jt k 0) fun r1=>
 aa k (bN k 10 [(Tm.mk r1.1 r1.2.1 r1.2.2 [] [] [])]) fun r2=>
 aa k (jt k 1) fun r3=>
 aa k (jt k 0) fun r4=>
 aa k (bN k 9 [(Tm.mk r4.1 r4.2.1 r4.2.2 [] [] [])]) fun r5=>
 ret (13,0,ByteArray.empty,a_r,[(Tm.mk r2.1 r2.2.1 r2.2.2.1 [] r2.2.2.2 []),(Tm.mk r3.1 r3.2.1 r3.2.2 [] [] []),(Tm.mk r5.1 r5.2.1 r5.2.2.1 [] r5.2.2.2 [])])
noncomputable def tN {S:Type} (k:Nat) (a_r:List Cl) (ret:Int×Int×ByteArray×List Cl×List Tm→Option S):Option S:=R4 k ret a_r
noncomputable def R3 {S:Type} (k:Nat) (ret:Int×Int×ByteArray×List Tm→Option S):Option S:=
 aa k (jt k 0) fun r1=>
 aa k (jt k 0) fun r2=>
 aa k (bN k 12 [(Tm.mk r2.1 r2.2.1 r2.2.2 [] [] [])]) fun r3=>
 aa k (bN k 8 [(Tm.mk r1.1 r1.2.1 r1.2.2 [] [] []),(Tm.mk r3.1 r3.2.1 r3.2.2.1 [] r3.2.2.2 [])]) fun r4=>
 aa k (tN k [(Cl.mk 1 0)]) fun r5=>
 aa k (tN k [(Cl.mk 3 0)]) fun r6=>
 aa k (bN k 12 [(Tm.mk r6.1 r6.2.1 r6.2.2.1 r6.2.2.2.1 r6.2.2.2.2 [])]) fun r7=>
 aa k (bN k 8 [(Tm.mk r5.1 r5.2.1 r5.2.2.1 r5.2.2.2.1 r5.2.2.2.2 []),(Tm.mk r7.1 r7.2.1 r7.2.2.1 [] r7.2.2.2 [])]) fun r8=>
 aa k (bN k 12 [(Tm.mk r8.1 r8.2.1 r8.2.2.1 [] r8.2.2.2 [])]) fun r9=>
 aa k (bN k 5 [(Tm.mk r9.1 r9.2.1 r9.2.2.1 [] r9.2.2.2 [])]) fun r10=>
 aa k (jt k 0) fun r11=>
 aa k (bN k 5 [(Tm.mk r11.1 r11.2.1 r11.2.2 [] [] [])]) fun r12=>
 aa k (bN k 8 [(Tm.mk r4.1 r4.2.1 r4.2.2.1 [] r4.2.2.2 []),(Tm.mk r10.1 r10.2.1 r10.2.2.1 [] r10.2.2.2 [])]) fun r13=>
 aa k (bN k 5 [(Tm.mk r13.1 r13.2.1 r13.2.2.1 [] r13.2.2.2 [])]) fun r14=>
 aa k (bN k 8 [(Tm.mk r12.1 r12.2.1 r12.2.2.1 [] r12.2.2.2 []),(Tm.mk r14.1 r14.2.1 r14.2.2.1 [] r14.2.2.2 [])]) fun r15=>
 ret (r15.1,r15.2.1,r15.2.2.1,r15.2.2.2)
noncomputable def yO {S:Type} (k:Nat) (ret:Int×Int×ByteArray×List Tm→Option S):Option S:=R3 k ret
def R9 {S:Type} (k:Nat) (ret:Int→Option S) (t:Tm) (vars dims:Int):Option S:=
 ab (decide ((vars:Int)<0)) (
 ret 2) (
 ab (decide ((dims:Int)<0)) (
  ret 2) (
  ab (decide ((dims:Int)>24)) (
  ret 2) (
  aa k (mU k (ad t)) fun r1=>
  ab (!(r1==0)) (
   ret r1) (
   d9 k (ad t) vars dims true fun r2=>
   ab (!r2) (
   ret 100) (
   ret 0)))))
noncomputable def yR {S:Type} (k:Nat) (t:Tm) (vars dims:Int) (ret:Int→Option S):Option S:=R9 k ret t vars dims
def R7 {S:Type} (k:Nat) (ret:Bool→Option S):Option S:=
 aa k (mD k (Tm.mk 3 0 ByteArray.empty [] [] []) ([]:List Cl) (Tm.mk 20 0 ByteArray.empty [] [] [])) fun r1=>
 aa k (yN k (Tm.mk 19 0 ByteArray.empty [] [] []) (Tm.mk 20 0 ByteArray.empty [] [] []) ([]:List (Br Tm))) fun r2=>
 ab (r1.2==0) (
 ab (r1.1.kind==14) (
  aa k (e9 k r1.1.r [(Cl.mk 0 1)]) fun r3=>
  ab (r3) (
  ab ((r1.1.kids.length:Int)==2) (
   Option.bind (ar r1.1.kids 0) fun x4=>
   ab (x4.kind==3) (
   ab (r2.2==0) (
    ab (r2.1.kind==15) (
    ab ((r2.1.sys.length:Int)==1) (
     Option.bind (ar r2.1.sys 0) fun x5=>
     aa k (e9 k x5.face [(Cl.mk 0 1)]) fun r6=>
     ab (r6) (
     aa k (yO k) fun r7=>
     aa k (yR k (Tm.mk r7.1 r7.2.1 r7.2.2.1 [] r7.2.2.2 []) 0 0) fun r8=>
     ret (r8==0)) (
     ret false)) (
     ret false)) (
    ret false)) (
    ret false)) (
   ret false)) (
   ret false)) (
  ret false)) (
  ret false)) (
 ret false)
noncomputable def pZ {S:Type} (k:Nat) (ret:Bool→Option S):Option S:=R7 k ret
abbrev H3 (S:Type):=Tm→(Int→Option S)→Option S
abbrev H4 (S:Type):=Tm→(Int→Option S)→Option S
abbrev H2 (S:Type):=Tm→Int→Int→Bool→(Bool→Option S)→Option S
end
end Go.Proofs.YtapmagaejigpnaaGreatDoor
namespace Go.Proofs.YtapmagaejigpnaaGreatDoor
open Go PI
set_option linter.unusedVariables false
set_option maxRecDepth 100000
noncomputable section
abbrev H5 (S:Type):=Tm→Int→Int→Int→Int→(Tm→Option S)→Option S
abbrev H6 (S:Type):=Tm→Int→(List Cl)→Int→Bool→(Tm→Option S)→Option S
noncomputable def Ew {S:Type} (k:Nat) (ret:Tm×Int→Option S) (line:Tm) (phi:List Cl) (a:Tm):Option S:=
 aa k (mE k (ad line) phi (ad a) (Cl.mk 1 0) [(Cl.mk 0 1),(Cl.mk 2 0)]) fun r1=>
 ret ((ad r1.1),r1.2)
noncomputable def pz {S:Type} (k:Nat) (line:Tm) (phi:List Cl) (a:Tm) (ret:Tm×Int→Option S):Option S:=Ew k ret line phi a
abbrev dz (S:Type):=Tm→Tm→(Bool→Option S)→Option S
def pe {S:Type} (hd:dz S) (k:Nat) (ret:Bool→Option S) (a b:List Tm) (rec0:Int→Option S) (i5:Int):Option S:=
 ab (decide ((i5:Int)<(a.length:Int))) (
 Option.bind (ar a i5) fun x1=>
 Option.bind (ar b i5) fun x2=>
 hd (ad x1) (ad x2) fun r3=>
 ab (!r3) (
  ret false) (
   rec0 (IntKind.wrap .i64 (i5+1)))) (
 ret true)
noncomputable def kY {S:Type} (hd:dz S) (k:Nat) (ret:Bool→Option S) (a b:List Tm):Nat→Int→Option S
 |0=>fun _=> .none
 |m+1=>fun i5=>pe hd k ret a b (kY hd k ret a b m) i5
def xD {S:Type} (hd:dz S) (k:Nat) (ret:Bool→Option S) (J0:Int→Option S) (a b:List Tm):Option S:=
 ab (!((a.length:Int)==(b.length:Int))) (
 ret false) (
  J0 0)
noncomputable def mQ {S:Type} (hd:dz S) (k:Nat) (a b:List Tm) (ret:Bool→Option S):Option S:=xD hd k ret (fun i5=>kY hd k ret a b k i5) a b
def pd {S:Type} (hd:dz S) (k:Nat) (ret:Bool→Option S) (a b:Tm) (rec0:Int→Option S) (i5:Int):Option S:=
 ab (decide ((i5:Int)<(a.sys.length:Int))) (
 Option.bind (ar a.sys i5) fun x3=>
 Option.bind (ar b.sys i5) fun x4=>
 aa k (e9 k x3.face x4.face) fun r5=>
 ab (!r5) (
  ret false) (
  Option.bind (ar a.sys i5) fun x6=>
  Option.bind (ar b.sys i5) fun x7=>
  aa k (mQ hd k x6.kids x7.kids) fun r8=>
  ab (!r8) (
  ret false) (
    rec0 (IntKind.wrap .i64 (i5+1))))) (
 ret true)
noncomputable def jM {S:Type} (hd:dz S) (k:Nat) (ret:Bool→Option S) (a b:Tm):Nat→Int→Option S
 |0=>fun _=> .none
 |m+1=>fun i5=>pd hd k ret a b (jM hd k ret a b m) i5
def xB {S:Type} (hd:dz S) (k:Nat) (ret:Bool→Option S) (J0:Int→Option S) (a b:Tm):Option S:=
 ab (!(a.kind==b.kind)) (
 ret false) (
 ab (!(a.n==b.n)) (
  ret false) (
  ab (!(a.name==b.name)) (
  ret false) (
  aa k (e9 k a.r b.r) fun r1=>
  ab (!r1) (
   ret false) (
   aa k (mQ hd k a.kids b.kids) fun r2=>
   ab (!r2) (
   ret false) (
   ab (!((a.sys.length:Int)==(b.sys.length:Int))) (
    ret false) (
       J0 0))))))
noncomputable def dO {S:Type}:Nat→Tm→Tm→(Bool→Option S)→Option S
 |0=>fun _ _ _=> .none
 |k+1=>fun a b ret=>xB (dO k) k ret (fun i5=>jM (dO k) k ret a b k i5) a b
def oZ {S:Type} (k:Nat) (ret:Bool→Option S) (sys:List (Br Tm)) (rec0:Int→Option S) (v7:Int):Option S:=
 ab (decide ((v7:Int)<(sys.length:Int))) (
 Option.bind (ar sys v7) fun x1=>
 ab ((x1.face.length:Int)==0) (
  ret true) (
   rec0 (IntKind.wrap .i64 (v7+1)))) (
 ret false)
noncomputable def kV {S:Type} (k:Nat) (ret:Bool→Option S) (sys:List (Br Tm)):Nat→Int→Option S
 |0=>fun _=> .none
 |m+1=>fun v7=>oZ k ret sys (kV k ret sys m) v7
noncomputable def Fh {S:Type} (k:Nat) (ret:Bool→Option S) (J0:Int→Option S) (sys:List (Br Tm)):Option S:=
 J0 0
noncomputable def t8 {S:Type} (k:Nat) (sys:List (Br Tm)) (ret:Bool→Option S):Option S:=Fh k ret (fun v7=>kV k ret sys k v7) sys
abbrev eV (S:Type):=Tm→(Bool→Option S)→Option S
def o0 {S:Type} (hd:eV S) (k:Nat) (ret:Bool→Option S) (t:Tm) (v26:Int) (x4:(Br Tm)) (rec1:Int→Option S) (rec2:Int→Option S) (v33:Int):Option S:=
 ab (decide ((v33:Int)<(x4.kids.length:Int))) (
 Option.bind (ar x4.kids v33) fun x5=>
 hd (ad x5) fun r6=>
 ab (!r6) (
  ret false) (
   rec2 (IntKind.wrap .i64 (v33+1)))) (
  rec1 (IntKind.wrap .i64 (v26+1)))
noncomputable def jI {S:Type} (hd:eV S) (k:Nat) (ret:Bool→Option S) (rec1:Int→Option S) (t:Tm) (v26:Int) (x4:(Br Tm)):Nat→Int→Option S
 |0=>fun _=> .none
 |m+1=>fun v33=>o0 hd k ret t v26 x4 rec1 (jI hd k ret rec1 t v26 x4 m) v33
def me {S:Type} (hd:eV S) (k:Nat) (ret:Bool→Option S) (t:Tm) (J2:Int→(Br Tm)→Int→Option S) (rec1:Int→Option S) (v26:Int):Option S:=
 ab (decide ((v26:Int)<(t.sys.length:Int))) (
 Option.bind (ar t.sys v26) fun x4=>
  J2 v26 x4 0) (
 ret true)
noncomputable def gN {S:Type} (hd:eV S) (k:Nat) (ret:Bool→Option S) (t:Tm):Nat→Int→Option S
 |0=>fun _=> .none
 |m+1=>fun v26=>me hd k ret t (fun v26 x4 v33=>jI hd k ret (gN hd k ret t m) t v26 x4 k v33) (gN hd k ret t m) v26
def md {S:Type} (hd:eV S) (k:Nat) (ret:Bool→Option S) (t:Tm) (J1:Int→Option S) (rec0:Int→Option S) (v15:Int):Option S:=
 ab (decide ((v15:Int)<(t.kids.length:Int))) (
 Option.bind (ar t.kids v15) fun x2=>
 hd (ad x2) fun r3=>
 ab (!r3) (
  ret false) (
   rec0 (IntKind.wrap .i64 (v15+1)))) (
  J1 0)
noncomputable def kW {S:Type} (hd:eV S) (k:Nat) (ret:Bool→Option S) (t:Tm):Nat→Int→Option S
 |0=>fun _=> .none
 |m+1=>fun v15=>md hd k ret t (fun v26=>gN hd k ret t k v26) (kW hd k ret t m) v15
def xu {S:Type} (hd:eV S) (k:Nat) (ret:Bool→Option S) (J0:Int→Option S) (t:Tm):Option S:=
 aa k (t8 k t.sys) fun r1=>
 ab (r1) (
 ret false) (
  J0 0)
noncomputable def d8 {S:Type}:Nat→Tm→(Bool→Option S)→Option S
 |0=>fun _ _=> .none
 |k+1=>fun t ret=>xu (d8 k) k ret (fun v15=>kW (d8 k) k ret t k v15) t
def Ff {S:Type} (k:Nat) (ret:Bool→Option S) (line:Tm) (phi:List Cl) (a:Tm):Option S:=
 aa k (pZ k) fun r1=>
 ab (!r1) (
 ret false) (
 aa k (pY k (ad line) (ad a) ([]:List (Br Tm))) fun r2=>
 ab (r2) (
  ret true) (
  ab (decide (((phi.length:Int):Int)>24)) (
  ret true) (
  d8 k (ad line) fun r3=>
  ab (!r3) (
   ret true) (
   d8 k (ad a) fun r4=>
   ab (!r4) (
   ret true) (
   aa k (mD k (ad line) phi (ad a)) fun r5=>
   aa k (pz k (ad line) phi (ad a)) fun r6=>
   ab (!(r5.2==0)) (
    ret true) (
    ab (!(r6.2==0)) (
    ret true) (
    aa k (h8 k) fun r7=>
    aa k (hX k (ad r5.1) 0 r7) fun r8=>
    aa k (ju k) fun r9=>
    aa k (hX k (ad r5.1) 0 r9) fun r10=>
    aa k (h8 k) fun r11=>
    aa k (hX k (ad r6.1) 0 r11) fun r12=>
    ab (!(r8.2==0)) (
     ret false) (
     ab (!(r10.2==0)) (
     ret false) (
     ab (!(r12.2==0)) (
      ret false) (
      dO k (ad r8.1) (Tm.mk 14 0 ByteArray.empty phi [(ad line),(ad a)] []) fun r13=>
      ab (r13) (
      aa k (h8 k) fun r14=>
      aa k (e9 k r10.1.r r14) fun r15=>
      ab (r15) (
       aa k (h8 k) fun r16=>
       aa k (e9 k r12.1.r r16) fun r17=>
       ret r17) (
       ret false)) (
      ret false)))))))))))
noncomputable def t7 {S:Type} (k:Nat) (line:Tm) (phi:List Cl) (a:Tm) (ret:Bool→Option S):Option S:=Ff k ret line phi a
end
end Go.Proofs.YtapmagaejigpnaaGreatDoor
