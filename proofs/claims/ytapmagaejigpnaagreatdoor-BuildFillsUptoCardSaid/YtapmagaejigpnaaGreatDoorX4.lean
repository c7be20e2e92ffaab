/- Part 4 of a proof: the sources, with their names and remarks, lie in wip/. -/
import Derived.Test.YtapmagaejigpnaaGreatDoorX3
import Derived.Test.YtapmagaejigpnaaGreatDoorProg
import Derived.KernelRfl
namespace Go.Proofs.YtapmagaejigpnaaGreatDoor.PI
open Go
set_option linter.unusedVariables false
set_option linter.unusedSimpArgs false
section
variable {U:Uni} {V:Env U} {P:Program} {X:Link V P}
theorem vc {fn:Func} {w0:World} {N0:au} {n m:Nat} {ν:Nat→Nat} {δ:Nat→Option Nat} {c':Ctx} (hc:CtxOf c' w0 N0 n m ν δ) (hdom: ∀j b,δ j=some b→j<m) {v:PV U} {u u':FrameMode} (hv:RcvOK v u u')
  {hh:FuncId} {caps:List (PV U)} {us:Array Value} (hct:sM c' caps us) {τ τ1:St U} {r:MR U} {τ0:St U} {gp gp':List Loc} {K:bJ U} {keep:Bool} {hand:List Bool} {out:Out U} {τ2:St U}
  (hrel:(fq (PV.idsL caps) fun _=>fP [] none (.func hh [] caps) []).Rel (gz X (g9 P u u')) τ [] r τ0 gp) (hr:r= .done) (ht:τ0.eqv τ1) (hret:(gi V keep hand fn.results.toList n).Rel K τ1 [] (.out out) τ2 gp')
  {a:Act} {w:World} {g:Gh U} {D:Nat→Option Nat} (hs:Sim X c' a.tmps w τ g D):
  Leaves P fn a.tmps (du X w0 N0 ν δ n m out) [{target:= .fn (.func hh) us,args:= #[]}] u w:=by
 obtain ⟨bs,fp1,hrel1,hkeys,hbs⟩:=uI _ hrel
 have hR:Rep X w (c'.N g D) g (.func (.func hh) #[] us) (.func hh [] caps):=by
  refine .func hh [] caps #[] us rfl hct.1 (by simp) fun j p hp=> ?_
  obtain ⟨id,off,b,rfl,hfix,hus⟩:=hct.2 j p hp
  rw [hus]
  refine .ptr id off b ?_
  have hin:id∈PV.idsL caps:=dJ hp id (by simp [PV.ids])
  rw [←hkeys] at hin
  obtain ⟨x,hx,rfl⟩:=List.mem_map.1 hin
  obtain ⟨k,hk,_⟩:=hs.boxes x.1 x.2 (hbs x hx)
  rcases hs.fix _ _ hk with h1|⟨h1,_⟩
  ·rw [hfix] at h1;injection h1 with h1;rw [h1];exact hk
  ·rw [hfix] at h1;cases h1
 obtain ⟨f,a0s,bs',hfv,⟨fnh,hfh,hnameh,hbodyh⟩,hcall⟩:=yJ (X:=X) (c:=c') (a:=a) (dst:=none) (o:=⟨none,.move (.const undef),0, "",#[],none⟩) (CP:=g9 P u u') (xs:= #[])
  (next:=fun a2 w2=>Leaves P fn a2.tmps (du X w0 N0 ν δ n m out) [] .returning w2) (Q:=fun _ _ _=>False)
  (fun {f vs w R R'} h hm=>CallsD.mono h fun e u2 w2 ⟨h1,h2⟩=>⟨h1,hm e w2 h2⟩) hs hR rfl (by simp) rfl rfl hrel1
  ⟨fun _ a2 w2 g2 D2 _ hs2=>by
   obtain ⟨v,h1,h2⟩:=lK hc hdom (hs2.eqv ht) hret
   exact ⟨v,h1,h2⟩,fun v hv=>by rw [hr] at hv;cases hv⟩
 injection hfv with e1 e2 e3
 injection e1 with e1
 subst e1;subst e2;subst e3
 have hun:u≠ .run:=by cases hv<;>simp
 refine leaves_cons hun (f:=hh) (args:= #[]++us) (by simp only [invoke];exact DR hfh hnameh hbodyh _ w) ?_
 have hcall2:CallsD P hh (#[]++us) u w fun e u2 w'=>u2=u'∧(match e,w' with
    | .returned v,w''=>Leaves P fn (a.put none v).tmps (du X w0 N0 ν δ n m out) [] .returning w''
    | .panicked chain,w''=>False
    | .outgrown,_=>LetsOut (fun _ _ _=>False)):=by
  have:=hcall
  simp only [Array.append_empty] at this
  exact this.mono fun e u2 w2 ⟨h1,h2⟩=>⟨h1,by cases e<;>exact h2⟩
 refine hcall2.mono fun e u2 w2 ⟨h1,h2⟩=> ?_
 subst h1
 cases e with
 |returned rv=>
  simp only [Act.put] at h2
  have hset:settle u2= .returning:=by cases hv<;>rfl
  simp only [hset]
  exact h2
 |panicked chain=>exact h2.elim
 |outgrown=>obtain ⟨_,_,h⟩:=h2;exact h.elim
theorem QV (hm:P.follows .mixedOrders=true) (hI:g_ X) {S:Side U} (hS:S.rcv=none) {R:Type} {C:Oracle U R} (hC:C.Tells (bS X)) {Cd:PV U→Oracle U R} (hCd: ∀v u u',RcvOK v u u'→(Cd v).Tells (gz X (g9 P u u')))
  {f:FuncId} {fn:Func} (hf:P.funcs[f]? =some fn)
  (hname:(fn.name== "runtime.NumGoroutine")=false) (hbody:fn.body.isNone=false) (hnt:fn.ntmps=S.nt) (hlow:S.nt≤1000000) {args:List (PV U)} {boxes:List (Box U)} (hargs:args.length≤S.nt) (hboxes:boxes.length≤1000000)
  {ann:Nat→Option Ann} {fuel:Nat} {keep:Bool} {hand:List Bool} {κ:Out U→Option R} {x:R} (h:wD V S C ann fuel Cd keep hand fn args boxes κ=some x): ∃out,κ out=some x∧bS X f args boxes out:=by
 obtain ⟨code,hcode⟩: ∃code,fn.body=some code:=by
  cases hb:fn.body with
  |none=>rw [hb] at hbody;cases hbody
  |some code=>exact ⟨code,rfl⟩
 unfold wD eP at h
 rw [hcode] at h
 have hpin: ∀ {w:World} {vs:Array Value} {N0:au} {ν:Nat→Nat} {δ:Nat→Option Nat} (hg:Given X w vs N0 ν δ args boxes),PinOK S (eN w N0 boxes.length args.length ν δ S.nt hlow hg.bnd X.gblk hg.glob):=by
  intro w vs N0 ν δ hg d _
  simp only [eN]
  rw [if_neg (by omega)]
 rcases QW (X:=X) hm hI hS hlow hC code h with ⟨e,τ,he,hk,hB⟩|⟨hh,caps,e,τ,hk,hB⟩
 ·have key: ∀ {out:Out U},(∀ (w:World) (vs:Array Value) (N0:au) (ν:Nat→Nat) (δ:Nat→Option Nat) (hg:Given X w vs N0 ν δ args boxes),
    Lands X (eN w N0 boxes.length args.length ν δ S.nt hlow hg.bnd X.gblk hg.glob) [] e τ (bodyPost P fn (du X w N0 ν δ boxes.length args.length out)))→bS X f args boxes out:=by
   intro out hl
   refine ⟨⟨fn,hf,hname,hbody⟩,fun w vs N0 ν δ hg=>calls_of_wp hf hcode ?_⟩
   have hs:=su hg hargs hlow
   rw [hnt]
   exact hB _ (hpin hg) rfl _ w _ _ _ hs (hl w vs N0 ν δ hg)
  cases e with
  |exit id=>cases hk
  |normal=>exact absurd rfl he
  |ret=>
   obtain ⟨r,τ0,τ1,gp,hr,ht,hfin⟩:=eQ hC _ hk (St.eqv.refl τ)
   cases r with
   |out o=>
    refine ⟨o,hfin,key fun w vs N0 ν δ hg a' w' g' D' hd hs=> ?_⟩
    obtain ⟨v,h1,h2⟩:=lK g6 hg.dom hs hr
    exact ⟨hd,v,h1,h2⟩
   |_=>cases hfin
  |panic v=>
   obtain ⟨r,τ0,τ1,gp,hr,ht,hfin⟩:=eQ hC _ hk (St.eqv.refl τ)
   cases r with
   |out o=>
    refine ⟨o,hfin,key fun w vs N0 ν δ hg a' w' g' D' hd hs val hval=> ?_⟩
    exact ⟨hd,vL g6 hg.dom hs hval hr⟩
   |_=>cases hfin
 ·have key: ∀ {out:Out U},(∀ (w:World) (vs:Array Value) (N0:au) (ν:Nat→Nat) (δ:Nat→Option Nat) (hg:Given X w vs N0 ν δ args boxes) (us:Array Value) (c':Ctx),CtxOf c' w N0 boxes.length args.length ν δ→sM c' caps us→
    Lands X c' [{target:= .fn (.func hh) us,args:= #[]}] e τ (bodyPostD P fn (du X w N0 ν δ boxes.length args.length out)))→bS X f args boxes out:=by
   intro out hl
   refine ⟨⟨fn,hf,hname,hbody⟩,fun w vs N0 ν δ hg=>calls_of_wp_defers hf hcode ?_⟩
   have hs:=su hg hargs hlow
   rw [hnt]
   exact hB _ (hpin hg) rfl _ w _ _ _ hs rfl fun us c' hcx _ hct=>hl w vs N0 ν δ hg us c' (hcx _ _ _ _ _ _ g6) hct
  have fin: ∀ {v:PV U} {u u':FrameMode},RcvOK v u u'→(fq (PV.idsL caps) fun _=>fP [] none (.func hh [] caps) []).cps (Cd v) τ [] (fun| .done,σ',_=>(gi V keep hand fn.results.toList boxes.length).cps C σ' [] (Go.Proofs.YtapmagaejigpnaaGreatDoor.PI.fin κ)|_,_,_=>none)=some x→
    ∃ (out:Out U) (r:MR U) (τ0 τ1 τ2:St U) (gp gp':List Loc),κ out=some x∧(fq (PV.idsL caps) fun _=>fP [] none (.func hh [] caps) []).Rel (gz X (g9 P u u')) τ [] r τ0 gp∧r= .done∧τ0.eqv τ1∧(gi V keep hand fn.results.toList boxes.length).Rel (bS X) τ1 [] (.out out) τ2 gp':=by
   intro v u u' hv hk
   obtain ⟨r,τ0,τ1,gp,hr,ht,hk1⟩:=eQ (hCd v u u' hv) _ hk (St.eqv.refl τ)
   cases r with
   |raise v=>cases hk1
   |out o=>cases hk1
   |done=>
    obtain ⟨r',τ2,τ3,gp',hr',ht',hk2⟩:=eQ hC _ hk1 (St.eqv.refl τ1)
    cases r' with
    |out o=>exact ⟨o,.done,τ0,τ1,τ2,gp,gp',hk2,hr,rfl,ht,hr'⟩
    |_=>cases hk2
  cases e with
  |exit id=>cases hk
  |normal=>
   obtain ⟨out,r,τ0,τ1,τ2,gp,gp',h1,h2,h3,h4,h5⟩:=fin .nil hk
   refine ⟨out,h1,key fun w vs N0 ν δ hg us c' hcx hct a' w' g' D' hd hs=> ?_⟩
   simp only [bodyPostD,hd]
   exact vc hcx hg.dom .nil hct h2 h3 h4 h5 hs
  |ret=>
   obtain ⟨out,r,τ0,τ1,τ2,gp,gp',h1,h2,h3,h4,h5⟩:=fin .nil hk
   refine ⟨out,h1,key fun w vs N0 ν δ hg us c' hcx hct a' w' g' D' hd hs=> ?_⟩
   simp only [bodyPostD,hd]
   exact vc hcx hg.dom .nil hct h2 h3 h4 h5 hs
  |panic v=>
   simp only [kD] at hk
   split at hk
   case h_2=>cases hk
   rename_i t k n'
   obtain ⟨out,r,τ0,τ1,τ2,gp,gp',h1,h2,h3,h4,h5⟩:=fin (.err t k n') hk
   refine ⟨out,h1,key fun w vs N0 ν δ hg us c' hcx hct a' w' g' D' hd hs val hval=> ?_⟩
   simp only [bodyPostD,hd]
   cases hval with
   |iface _ u _ hu=>cases hu;exact vc hcx hg.dom (.err t k n') hct h2 h3 h4 h5 hs
end
end Go.Proofs.YtapmagaejigpnaaGreatDoor.PI
namespace Go.Proofs.YtapmagaejigpnaaGreatDoor
open Go PI
set_option linter.unusedVariables false
set_option maxRecDepth 100000
noncomputable section
noncomputable def nd:ET→TypeId
 | .C=>61
 | .T=>26
 | .B=>63
 | .I=>3
 | .F=>22
noncomputable def kK:ET→Nat
 | .C=>2
 | .T=>6
 | .B=>2
 | .I=>1
 | .F=>1
noncomputable def qy:ET→Nat
 | .C=>8
 | .T=>104
 | .B=>48
 | .I=>8
 | .F=>24
noncomputable def qG (e:ET):Value:=((Tryz.prog.info? (nd e)).bind (·.zero)).getD undef
noncomputable def uy (e:ET):Bool:=match Tryz.prog.info? (nd e) with
 |some i=>i.zero.isSome&&(Nat.beq i.size (kK e)&&Nat.beq i.bytes (qy e))&&Nat.beq (qG e).cells.size (kK e)
 | .none=>false
theorem zK (e:ET):uy e=true:=by cases e<;>kernel_rfl
theorem Gb: ∀t r,ox t=some r→yj Tryz.prog nd t r=true:=by
 intro t r h
 unfold ox at h
 split at h<;>first|(injection h with h;subst h;kernel_rfl)|cases h
theorem Nu: ∀t r e,ox t=some r→r.keys=some e→e= .C:=by
 intro t r e h hk
 unfold ox at h
 split at h<;>first|(injection h with h;subst h;cases hk;done)|(injection h with h;subst h;injection hk with hk;exact hk.symm)|cases h
theorem S0: ∀e cs y,F_ e cs=some y→cs.length=kK e∧cs.all PV.isCell=true∧ ∀ (k:Nat) p,cs[k]? =some p→ ∃q,(cx e y)[k]? =some q∧p.less q:=by
 have hC: ∀ {p:PU} {l},mc p=some l→ ∃o,p= .sl (U:=UU) ET.C l o:=by
  intro p l h;unfold mc at h;split at h<;>first|(injection h with h;subst h;exact ⟨_,rfl⟩)|cases h
 have hT: ∀ {p:PU} {l},oI p=some l→ ∃o,p= .sl (U:=UU) ET.T l o:=by
  intro p l h;unfold oI at h;split at h<;>first|(injection h with h;subst h;exact ⟨_,rfl⟩)|cases h
 have hB: ∀ {p:PU} {l},tu p=some l→ ∃o,p= .sl (U:=UU) ET.B l o:=by
  intro p l h;unfold tu at h;split at h<;>first|(injection h with h;subst h;exact ⟨_,rfl⟩)|cases h
 intro e cs y h
 cases e
 ·have h:yf cs=some y:=h
  unfold yf at h
  split at h
  case h_2=>cases h
  injection h with h;subst h
  refine ⟨rfl,rfl,fun k p hp=> ?_⟩
  match k,hp with
  |0,hp=>exact ⟨_,rfl,.inl (Option.some.inj hp).symm⟩
  |1,hp=>exact ⟨_,rfl,.inl (Option.some.inj hp).symm⟩
  |k+2,hp=>simp at hp
 ·have h:yi cs=some y:=h
  unfold yi at h
  split at h
  case h_2=>cases h
  split at h
  case h_2=>cases h
  rename_i h1 h2 h3
  injection h with h;subst h
  obtain ⟨o1,rfl⟩:=hC h1;obtain ⟨o2,rfl⟩:=hT h2;obtain ⟨o3,rfl⟩:=hB h3
  refine ⟨rfl,rfl,fun k p hp=> ?_⟩
  match k,hp with
  |0,hp=>exact ⟨_,rfl,.inl (Option.some.inj hp).symm⟩
  |1,hp=>exact ⟨_,rfl,.inl (Option.some.inj hp).symm⟩
  |2,hp=>exact ⟨_,rfl,.inl (Option.some.inj hp).symm⟩
  |3,hp=>exact ⟨_,rfl,.inr ⟨_,_,_,(Option.some.inj hp).symm,rfl⟩⟩
  |4,hp=>exact ⟨_,rfl,.inr ⟨_,_,_,(Option.some.inj hp).symm,rfl⟩⟩
  |5,hp=>exact ⟨_,rfl,.inr ⟨_,_,_,(Option.some.inj hp).symm,rfl⟩⟩
  |k+6,hp=>simp at hp
 ·have h:ye cs=some y:=h
  unfold ye at h
  split at h
  case h_2=>cases h
  split at h
  case h_2=>cases h
  rename_i h1 h2
  injection h with h;subst h
  obtain ⟨o1,rfl⟩:=hC h1;obtain ⟨o2,rfl⟩:=hT h2
  refine ⟨rfl,rfl,fun k p hp=> ?_⟩
  match k,hp with
  |0,hp=>exact ⟨_,rfl,.inr ⟨_,_,_,(Option.some.inj hp).symm,rfl⟩⟩
  |1,hp=>exact ⟨_,rfl,.inr ⟨_,_,_,(Option.some.inj hp).symm,rfl⟩⟩
  |k+2,hp=>simp at hp
 ·have h:yh cs=some y:=h
  unfold yh at h
  split at h
  case h_2=>cases h
  injection h with h;subst h
  refine ⟨rfl,rfl,fun k p hp=> ?_⟩
  match k,hp with
  |0,hp=>exact ⟨_,rfl,.inl (Option.some.inj hp).symm⟩
  |k+1,hp=>simp at hp
 ·have h:yg cs=some y:=h
  unfold yg at h
  split at h
  case h_2=>cases h
  obtain ⟨o1,rfl⟩:=hC h
  refine ⟨rfl,rfl,fun k p hp=> ?_⟩
  match k,hp with
  |0,hp=>exact ⟨_,rfl,.inr ⟨_,_,_,(Option.some.inj hp).symm,rfl⟩⟩
  |k+1,hp=>simp at hp
theorem LQ (e:ET): ∃i,Tryz.prog.info? (nd e)=some i∧i.zero=some (qG e)∧i.size=kK e∧i.bytes=qy e:=by
 have h:=zK e
 unfold uy at h
 split at h
 ·rename_i i hi
  simp only [Bool.and_eq_true] at h
  obtain ⟨⟨h1,h2,h3⟩,h4⟩:=h
  refine ⟨i,hi, ?_,by simpa using h2,by simpa using h3⟩
  unfold qG
  rw [hi]
  obtain ⟨z,hz⟩:=Option.isSome_iff_exists.1 h1
  simp [hz]
 ·cases h
noncomputable def LL (o:Obj):Link VV Tryz.prog where
 gblk:=[(0,o)]
 etid:=nd
 esize:=kK
 ebytes:=qy
 ezero:=qG
 einfo:=LQ
 zsize:=fun e=>by
  have h:=zK e
  unfold uy at h
  split at h
  ·simp only [Bool.and_eq_true] at h
   exact by simpa using h.2
  ·cases h
 epos:=fun e=>by cases e<;>decide
 broom:=fun e n h=>by
  have h':n≤1099511627776:=h
  cases e<;>simp only [qy,maxLen]<;>omega
 len:=fun e x=>by cases e<;>rfl
 small:=fun e=>by cases e<;>decide
 ecell':=fun e x=>by cases e<;>rfl
 toEl:=S0
 ty:=fun t r h=>Ga (Gb t r h)
 keyT:=fun t r e h hk=>by
  have he:=Nu t r e h hk
  subst he
  obtain ⟨fs,h1,h2,_,h4,h5⟩:=(Ga (Gb 61 _ rfl)).isInts rfl
  exact ⟨⟨fs,h1,h2,h4,h5⟩,fun x y=>⟨_,by simp only [VV,cx,PV.eqvI];rfl⟩⟩
theorem vA:Tryz.prog.follows .mixedOrders=true:=by kernel_rfl
theorem sw {A B:Out UU→Prop} (h: ∃out,A out∧B out): ∃out,B out∧A out:=by obtain ⟨o,a,b⟩:=h;exact ⟨o,b,a⟩
theorem JP {S:Type} {b:Bool} {x y:Option S} {v:S} (h:(bif b then x else y)=some v):x=some v∨y=some v:=by
 cases b
 ·exact .inr h
 ·exact .inl h
end
end Go.Proofs.YtapmagaejigpnaaGreatDoor
namespace Go.Proofs.YtapmagaejigpnaaGreatDoor
open Go PI
set_option linter.unusedVariables false
def U32 (s:Int):Prop:=0≤s∧s<4294967296
theorem U32.nat {s:Int} (h:U32 s): ∃n:Nat,n<4294967296∧s=n:=⟨s.toNat,by have:=h.1;have:=h.2;omega,by have:=h.1;omega⟩
theorem js {n:Nat} (h:n<4294967296):(BitVec.ofInt 32 (n:Int)).toNat=n:=by
 simp
 omega
theorem jg (n:Nat) (h:n<4294967296):IntKind.wrap .u32 (n:Int)=n:=by
 simp [IntKind.wrap,IntKind.bits,IntKind.signed];omega
theorem e9 (n:Nat) (h:n<18446744073709551616):IntKind.wrap .u64 (n:Int)=n:=by
 simp [IntKind.wrap,IntKind.bits,IntKind.signed];omega
theorem GI {n:Int} (h1: -9223372036854775808≤n) (h2:n<9223372036854775808):IntKind.wrap .i64 n=n:=by
 simp [IntKind.wrap,IntKind.bits,IntKind.signed];omega
theorem oH {a b n:Nat} (h:a<2^n):a&&&b<2^n:=Nat.lt_of_le_of_lt Nat.and_le_left h
theorem hU {a b:Nat} (ha:a<4294967296) (hb:b<4294967296):aN .and .u32 (a:Int) (b:Int)=((a&&&b:Nat):Int):=by
 have h1:=js ha;have h2:=js hb
 simp only [aN]
 show IntKind.wrap .u32 (((BitVec.ofInt 32 (a:Int))&&&(BitVec.ofInt 32 (b:Int))).toNat:Int)=_
 rw [BitVec.toNat_and,h1,h2]
 exact jg _ (oH (n:=32) ha)
theorem oJ {a b:Nat} (ha:a<4294967296) (hb:b<4294967296):aN .or .u32 (a:Int) (b:Int)=((a|||b:Nat):Int):=by
 have h1:=js ha;have h2:=js hb
 simp only [aN]
 show IntKind.wrap .u32 (((BitVec.ofInt 32 (a:Int))|||(BitVec.ofInt 32 (b:Int))).toNat:Int)=_
 rw [BitVec.toNat_or,h1,h2]
 exact jg _ (Nat.or_lt_two_pow (n:=32) ha hb)
def gW (a b:Nat):Nat:=a^^^(a&&&b)
theorem lu (a b i:Nat):(gW a b).testBit i=(a.testBit i&& !b.testBit i):=by
 simp only [gW,Nat.testBit_xor,Nat.testBit_and]
 cases a.testBit i<;>cases b.testBit i<;>rfl
theorem vC {a b n:Nat} (h:a<2^n):gW a b<2^n:=Nat.xor_lt_two_pow h (oH h)
theorem tv {a b:Nat} (ha:a<4294967296) (hb:b<4294967296):aN .andNot .u32 (a:Int) (b:Int)=((gW a b:Nat):Int):=by
 have h1:=js ha;have h2:=js hb
 simp only [aN]
 show IntKind.wrap .u32 (((BitVec.ofInt 32 (a:Int))&&& ~~~(BitVec.ofInt 32 (b:Int))).toNat:Int)=_
 have e:((BitVec.ofInt 32 (a:Int))&&& ~~~(BitVec.ofInt 32 (b:Int))).toNat=gW a b:=by
  apply Nat.eq_of_testBit_eq
  intro i
  rw [lu,BitVec.toNat_and,Nat.testBit_and,h1]
  by_cases hi:i<32
  ·have:(~~~(BitVec.ofInt 32 (b:Int))).toNat.testBit i= !b.testBit i:=by
    rw [←BitVec.getLsbD,BitVec.getLsbD_not]
    rw [BitVec.getLsbD,h2];simp [hi]
   rw [this]
  ·have:a.testBit i=false:=Nat.testBit_lt_two_pow (Nat.lt_of_lt_of_le ha (by exact Nat.pow_le_pow_right (n:=2) (by decide) (show 32≤i by omega)))
   simp [this]
 rw [e]
 exact jg _ (vC (n:=32) ha)
theorem bW {α:Type} (p:Prop) [Decidable p] (x y:α):ab (decide p) x y=if p then x else y:=by
 by_cases h:p
 ·rw [decide_eq_true h,if_pos h,ag]
 ·rw [decide_eq_false h,if_neg h,ac]
theorem d8 {α:Type} (c:Bool) (x y:α):ab c x y=if c=true then x else y:=by
 cases c
 ·exact ac x y
 ·exact ag x y
abbrev Fu (k:Nat):Prop:=4294967296≤k
theorem am {R S:Type} {k:Nat} (h:Fu k) (f:(R→Option S)→Option S) (g:R→Option S):aa k f g=f g:=JZ (by have:4294967296≤k:=h;omega) f g
theorem bM {S:Type} {n m:Nat} (h:n+m≤1099511627776) (f:Unit→Option S):Option.bind (aR 1099511627776 n m) f=f ():=by
 have:n+m≤1099511627776:=h
 simp [aR,this]
theorem aJ {α:Type} {l p r:List α} {x:α} (h:l=p++x::r) (hl:l.length<4611686018427387904):
  decide ((p.length:Int)<(l.length:Int))=true∧ar l (p.length:Int)=some x∧IntKind.wrap .i64 ((p.length:Int)+1)=((p++[x]).length:Int)∧l=(p++[x])++r:=by
 subst h
 rw [List.length_append,List.length_cons] at hl
 refine ⟨decide_eq_true (by rw [List.length_append,List.length_cons];omega), ?_, ?_,by simp⟩
 ·simp [ar]
 ·rw [List.length_append,List.length_cons,List.length_nil]
  simp [IntKind.wrap,IntKind.bits,IntKind.signed];omega
theorem aM {α:Type} {l p:List α} (h:l=p++[]):decide ((p.length:Int)<(l.length:Int))=false:=by
 subst h
 exact decide_eq_false (by rw [List.append_nil];omega)
theorem ao {n m:Nat} (h:n<m): ∃q,m=q+1∧n≤q:=⟨m-1,by omega,by omega⟩
theorem gE {S:Type} (p:Prop) [Decidable p] (h:p) (f:Unit→Option S):Option.bind (bX p) f=f ():=by simp [bX,h]
end Go.Proofs.YtapmagaejigpnaaGreatDoor
namespace Go.Proofs.YtapmagaejigpnaaGreatDoor
open Go PI
set_option linter.unusedVariables false
set_option maxRecDepth 100000
noncomputable section
abbrev fc (S:Type):=Tm→Int→(Int→Option S)→Option S
def ph {S:Type} (hd:fc S) (k:Nat) (ret:Int→Option S) (t:Tm) (most i7:Int) (rec1:Int→Int→Option S) (rec2:Int→Int→Option S) (v5'' v8:Int):Option S:=
 Option.bind (ar t.sys i7) fun x5=>
 ab (decide ((v8:Int)<(x5.kids.length:Int))) (
 ab (decide ((v5'':Int)≤most)) (
  Option.bind (ar t.sys i7) fun x6=>
  Option.bind (ar x6.kids v8) fun x7=>
  hd (af x7) (IntKind.wrap .i64 (most-v5'')) fun r8=>
   rec2 (IntKind.wrap .i64 (v5''+r8)) (IntKind.wrap .i64 (v8+1))) (
   rec1 v5'' (IntKind.wrap .i64 (i7+1)))) (
  rec1 v5'' (IntKind.wrap .i64 (i7+1)))
noncomputable def gS {S:Type} (hd:fc S) (k:Nat) (ret:Int→Option S) (rec1:Int→Int→Option S) (t:Tm) (most i7:Int):Nat→Int→Int→Option S
 |0=>fun _ _=> .none
 |m+1=>fun v5'' v8=>ph hd k ret t most i7 rec1 (gS hd k ret rec1 t most i7 m) v5'' v8
def mo {S:Type} (hd:fc S) (k:Nat) (ret:Int→Option S) (t:Tm) (most:Int) (J2:Int→Int→Int→Option S) (rec1:Int→Int→Option S) (v5' i7:Int):Option S:=
 ab (decide ((i7:Int)<(t.sys.length:Int))) (
 ab (decide ((v5':Int)≤most)) (
  Option.bind (ar t.sys i7) fun x3=>
  ab (decide (((x3.face.length:Int):Int)>most)) (
  ret (IntKind.wrap .i64 (most+1))) (
  Option.bind (ar t.sys i7) fun x4=>
    J2 i7 (IntKind.wrap .i64 ((IntKind.wrap .i64 (v5'+1))+(x4.face.length:Int))) 0)) (
  ret v5')) (
 ret v5')
noncomputable def f_ {S:Type} (hd:fc S) (k:Nat) (ret:Int→Option S) (t:Tm) (most:Int):Nat→Int→Int→Option S
 |0=>fun _ _=> .none
 |m+1=>fun v5' i7=>mo hd k ret t most (fun i7 v5'' v8=>gS hd k ret (f_ hd k ret t most m) t most i7 k v5'' v8) (f_ hd k ret t most m) v5' i7
def mn {S:Type} (hd:fc S) (k:Nat) (ret:Int→Option S) (t:Tm) (most:Int) (J1:Int→Int→Option S) (rec0:Int→Int→Option S) (v5 i6:Int):Option S:=
 ab (decide ((i6:Int)<(t.kids.length:Int))) (
 ab (decide ((v5:Int)≤most)) (
  Option.bind (ar t.kids i6) fun x1=>
  hd (af x1) (IntKind.wrap .i64 (most-v5)) fun r2=>
   rec0 (IntKind.wrap .i64 (v5+r2)) (IntKind.wrap .i64 (i6+1))) (
   J1 v5 0)) (
  J1 v5 0)
noncomputable def jS {S:Type} (hd:fc S) (k:Nat) (ret:Int→Option S) (t:Tm) (most:Int):Nat→Int→Int→Option S
 |0=>fun _ _=> .none
 |m+1=>fun v5 i6=>mn hd k ret t most (fun v5' i7=>f_ hd k ret t most k v5' i7) (jS hd k ret t most m) v5 i6
def xN {S:Type} (hd:fc S) (k:Nat) (ret:Int→Option S) (J0:Int→Int→Option S) (t:Tm) (most:Int):Option S:=
 ab (decide (((t.r.length:Int):Int)>most)) (
 ret (IntKind.wrap .i64 (most+1))) (
 ab (decide (((t.name.size:Int):Int)>most)) (
  ret (IntKind.wrap .i64 (most+1))) (
   J0 (IntKind.wrap .i64 ((IntKind.wrap .i64 (1+(t.r.length:Int)))+(t.name.size:Int))) 0))
noncomputable def dj {S:Type}:Nat→Tm→Int→(Int→Option S)→Option S
 |0=>fun _ _ _=> .none
 |k+1=>fun t most ret=>xN (dj k) k ret (fun v5 i6=>jS (dj k) k ret t most k v5 i6) t most
def Fz {S:Type} (k:Nat) (ret:Bool→Option S) (a b:Tm) (sys:List (Br Tm)):Option S:=
 dj k (af a) 150 fun r1=>
 ab (decide ((r1:Int)>150)) (
 ret true) (
 dj k (af b) 150 fun r2=>
 ab (decide ((r2:Int)>150)) (
  ret true) (
  dj k (Tm.mk 0 0 ByteArray.empty [] [] sys) 150 fun r3=>
  ret (decide ((r3:Int)>150))))
noncomputable def mT {S:Type} (k:Nat) (a b:Tm) (sys:List (Br Tm)) (ret:Bool→Option S):Option S:=Fz k ret a b sys
def FS {S:Type} (k:Nat) (ret:Int×Int→Option S) (kind kid:Int):Option S:=
 ab (kind==4) (
 ab (kid==1) (
  ret (1,0)) (
  ret (0,0))) (
 ab (kind==7) (
  ab (kid==1) (
  ret (1,0)) (
  ret (0,0))) (
  ab (kind==5) (
  ab (kid==0) (
   ret (1,0)) (
   ret (0,0))) (
  ab (kind==22) (
   ab (kid==0) (
   ret (1,0)) (
   ret (0,0))) (
   ab (kind==27) (
   ab (kid==0) (
    ret (1,0)) (
    ret (0,0))) (
   ab (kind==11) (
    ab (kid==0) (
    ret (0,1)) (
    ret (0,0))) (
    ab (kind==12) (
    ab (kid==0) (
     ret (0,1)) (
     ret (0,0))) (
    ab (kind==14) (
     ab (kid==0) (
     ret (0,1)) (
     ret (0,0))) (
     ret (0,0)))))))))
noncomputable def ij {S:Type} (k:Nat) (kind kid:Int) (ret:Int×Int→Option S):Option S:=FS k ret kind kid
abbrev cu (S:Type):=Tm→Int→(Bool→Option S)→Option S
noncomputable def x_ {S:Type} (hd:cu S) (k:Nat) (ret:Bool→Option S) (a_k:Tm) (p p' c0:Int):Option S:=
 hd (af a_k) (IntKind.wrap .i64 (c0-1)) fun r1=>
 ret r1
noncomputable def mY {S:Type} (hd:cu S) (k:Nat) (a_k:Tm) (p p' c0:Int) (ret:Bool→Option S):Option S:=x_ hd k ret a_k p p' c0
def pr {S:Type} (hd:cu S) (k:Nat) (ret:Bool→Option S) (c0:Int) (t:Tm) (v42:Int) (x4:(Br Tm)) (more9:Int) (rec1:Int→Int→Option S) (rec2:Int→Option S) (v49:Int):Option S:=
 ab (decide ((v49:Int)<(x4.kids.length:Int))) (
 Option.bind (ar x4.kids v49) fun x5=>
 aa k (mY hd k (af x5) 0 more9 c0) fun r6=>
 ab (!r6) (
  ret false) (
   rec2 (IntKind.wrap .i64 (v49+1)))) (
  rec1 (IntKind.wrap .i64 (v42+1)) more9)
noncomputable def iP {S:Type} (hd:cu S) (k:Nat) (ret:Bool→Option S) (rec1:Int→Int→Option S) (c0:Int) (t:Tm) (v42:Int) (x4:(Br Tm)) (more9:Int):Nat→Int→Option S
 |0=>fun _=> .none
 |m+1=>fun v49=>pr hd k ret c0 t v42 x4 more9 rec1 (iP hd k ret rec1 c0 t v42 x4 more9 m) v49
def mz {S:Type} (hd:cu S) (k:Nat) (ret:Bool→Option S) (c0:Int) (t:Tm) (J2:Int→(Br Tm)→Int→Int→Option S) (rec1:Int→Int→Option S) (v42 more9:Int):Option S:=
 ab (decide ((v42:Int)<(t.sys.length:Int))) (
 Option.bind (ar t.sys v42) fun x4=>
  J2 v42 x4 more9 0) (
 ret true)
noncomputable def fA {S:Type} (hd:cu S) (k:Nat) (ret:Bool→Option S) (c0:Int) (t:Tm):Nat→Int→Int→Option S
 |0=>fun _ _=> .none
 |m+1=>fun v42 more9=>mz hd k ret c0 t (fun v42 x4 more9 v49=>iP hd k ret (fA hd k ret c0 t m) c0 t v42 x4 more9 k v49) (fA hd k ret c0 t m) v42 more9
def my {S:Type} (hd:cu S) (k:Nat) (ret:Bool→Option S) (c0:Int) (t:Tm) (J1:Int→Int→Option S) (rec0:Int→Option S) (v17:Int):Option S:=
 ab (decide ((v17:Int)<(t.kids.length:Int))) (
 Option.bind (ar t.kids v17) fun x1=>
 aa k (ij k t.kind v17) fun r2=>
 aa k (mY hd k (af x1) r2.1 r2.2 c0) fun r3=>
 ab (!r3) (
  ret false) (
   rec0 (IntKind.wrap .i64 (v17+1)))) (
 ab (t.kind==15) (
   J1 0 1) (
   J1 0 0))
noncomputable def lh {S:Type} (hd:cu S) (k:Nat) (ret:Bool→Option S) (c0:Int) (t:Tm):Nat→Int→Option S
 |0=>fun _=> .none
 |m+1=>fun v17=>my hd k ret c0 t (fun v42 more9=>fA hd k ret c0 t k v42 more9) (lh hd k ret c0 t m) v17
noncomputable def xX {S:Type} (hd:cu S) (k:Nat) (ret:Bool→Option S) (J0:Int→Option S) (t:Tm) (c0:Int):Option S:=
 J0 0
noncomputable def uj {S:Type} (hd:cu S) (k:Nat) (t:Tm) (c0:Int) (ret:Bool→Option S):Option S:=xX hd k ret (fun v17=>lh hd k ret c0 t k v17) t c0
def FY {S:Type} (hd:cu S) (k:Nat) (ret:Bool→Option S) (t:Tm) (left:Int):Option S:=
 ab (decide ((left:Int)>0)) (
 aa k (uj hd k (af t) left) fun r1=>
 ret r1) (
 ret false)
noncomputable def fV {S:Type}:Nat→Tm→Int→(Bool→Option S)→Option S
 |0=>fun _ _ _=> .none
 |k+1=>fun t left ret=>FY (fV k) k ret t left
abbrev ct (S:Type):=Tm→Int→(Bool×Int→Option S)→Option S
def yb {S:Type} (hd:ct S) (k:Nat) (ret:Bool×Int→Option S) (t:Tm) (c0:Int):Option S:=
 ab (decide ((IntKind.wrap .i64 (c0-1):Int)≥0)) (
 hd (af t) (IntKind.wrap .i64 (c0-1)) fun r1=>
 ret (r1.1,r1.2)) (
 ret (false,IntKind.wrap .i64 (c0-1)))
noncomputable def kG {S:Type} (hd:ct S) (k:Nat) (t:Tm) (c0:Int) (ret:Bool×Int→Option S):Option S:=yb hd k ret t c0
noncomputable def ya {S:Type} (hd:ct S) (k:Nat) (ret:Bool×Int→Option S) (a_k:Tm) (p p' c1:Int):Option S:=
 aa k (kG hd k (af a_k) c1) fun r1=>
 ret (r1.1,r1.2)
noncomputable def m0 {S:Type} (hd:ct S) (k:Nat) (a_k:Tm) (p p' c1:Int) (ret:Bool×Int→Option S):Option S:=ya hd k ret a_k p p' c1
def po {S:Type} (hd:ct S) (k:Nat) (ret:Bool×Int→Option S) (t:Tm) (v42:Int) (x4:(Br Tm)) (more9:Int) (rec1:Int→Int→Int→Option S) (rec2:Int→Int→Option S) (e1_0'' v49:Int):Option S:=
 ab (decide ((v49:Int)<(x4.kids.length:Int))) (
 Option.bind (ar x4.kids v49) fun x5=>
 aa k (m0 hd k (af x5) 0 more9 e1_0'') fun r6=>
 ab (!r6.1) (
  ret (false,r6.2)) (
   rec2 r6.2 (IntKind.wrap .i64 (v49+1)))) (
  rec1 e1_0'' (IntKind.wrap .i64 (v42+1)) more9)
noncomputable def fy {S:Type} (hd:ct S) (k:Nat) (ret:Bool×Int→Option S) (rec1:Int→Int→Int→Option S) (t:Tm) (v42:Int) (x4:(Br Tm)) (more9:Int):Nat→Int→Int→Option S
 |0=>fun _ _=> .none
 |m+1=>fun e1_0'' v49=>po hd k ret t v42 x4 more9 rec1 (fy hd k ret rec1 t v42 x4 more9 m) e1_0'' v49
def mt {S:Type} (hd:ct S) (k:Nat) (ret:Bool×Int→Option S) (t:Tm) (J2:Int→(Br Tm)→Int→Int→Int→Option S) (rec1:Int→Int→Int→Option S) (e1_0' v42 more9:Int):Option S:=
 ab (decide ((v42:Int)<(t.sys.length:Int))) (
 Option.bind (ar t.sys v42) fun x4=>
  J2 v42 x4 more9 e1_0' 0) (
 ret (true,e1_0'))
noncomputable def eB {S:Type} (hd:ct S) (k:Nat) (ret:Bool×Int→Option S) (t:Tm):Nat→Int→Int→Int→Option S
 |0=>fun _ _ _=> .none
 |m+1=>fun e1_0' v42 more9=>mt hd k ret t (fun v42 x4 more9 e1_0'' v49=>fy hd k ret (eB hd k ret t m) t v42 x4 more9 k e1_0'' v49) (eB hd k ret t m) e1_0' v42 more9
def mq {S:Type} (hd:ct S) (k:Nat) (ret:Bool×Int→Option S) (t:Tm) (J1:Int→Int→Int→Option S) (rec0:Int→Int→Option S) (e1_0 v17:Int):Option S:=
 ab (decide ((v17:Int)<(t.kids.length:Int))) (
 Option.bind (ar t.kids v17) fun x1=>
 aa k (ij k t.kind v17) fun r2=>
 aa k (m0 hd k (af x1) r2.1 r2.2 e1_0) fun r3=>
 ab (!r3.1) (
  ret (false,r3.2)) (
   rec0 r3.2 (IntKind.wrap .i64 (v17+1)))) (
 ab (t.kind==15) (
   J1 e1_0 0 1) (
   J1 e1_0 0 0))
noncomputable def jU {S:Type} (hd:ct S) (k:Nat) (ret:Bool×Int→Option S) (t:Tm):Nat→Int→Int→Option S
 |0=>fun _ _=> .none
 |m+1=>fun e1_0 v17=>mq hd k ret t (fun e1_0' v42 more9=>eB hd k ret t k e1_0' v42 more9) (jU hd k ret t m) e1_0 v17
noncomputable def xV {S:Type} (hd:ct S) (k:Nat) (ret:Bool×Int→Option S) (J0:Int→Int→Option S) (t:Tm) (c1:Int):Option S:=
 J0 c1 0
noncomputable def dU {S:Type}:Nat→Tm→Int→(Bool×Int→Option S)→Option S
 |0=>fun _ _ _=> .none
 |k+1=>fun t c1 ret=>xV (dU k) k ret (fun e1_0 v17=>jU (dU k) k ret t k e1_0 v17) t c1
noncomputable def F0 {S:Type} (k:Nat) (ret:Bool→Option S) (t:Tm) (most:Int):Option S:=
 aa k (kG (dU k) k (af t) most) fun r1=>
 ret r1.1
noncomputable def qj {S:Type} (k:Nat) (t:Tm) (most:Int) (ret:Bool→Option S):Option S:=F0 k ret t most
def FZ {S:Type} (k:Nat) (ret:Int→Option S) (t:Tm):Option S:=
 fV k (af t) 200 fun r1=>
 ab (!r1) (
 ret 62) (
 aa k (qj k (af t) 20000) fun r2=>
 ab (!r2) (
  ret 221) (
  ret 0))
noncomputable def mZ {S:Type} (k:Nat) (t:Tm) (ret:Int→Option S):Option S:=FZ k ret t
def FU {S:Type} (k:Nat) (ret:Int→Option S) (kind:Int):Option S:=
 ab (kind==1) (
 ret 0) (
 ab (kind==2) (
  ret 0) (
  ab (kind==3) (
  ret 0) (
  ab (kind==19) (
   ret 0) (
   ab (kind==20) (
   ret 0) (
   ab (kind==24) (
    ret 0) (
    ab (kind==25) (
    ret 0) (
    ab (kind==21) (
     ret 0) (
     ab (kind==5) (
     ret 1) (
     ab (kind==9) (
      ret 1) (
      ab (kind==10) (
      ret 1) (
      ab (kind==23) (
       ret 1) (
       ab (kind==12) (
       ret 1) (
       ab (kind==16) (
        ret 1) (
        ab (kind==17) (
        ret 1) (
        ab (kind==18) (
         ret 1) (
         ab (kind==26) (
         ret 1) (
         ab (kind==4) (
          ret 2) (
          ab (kind==7) (
          ret 2) (
          ab (kind==6) (
           ret 2) (
           ab (kind==8) (
           ret 2) (
           ab (kind==14) (
            ret 2) (
            ab (kind==15) (
            ret 2) (
            ab (kind==28) (
             ret 2) (
             ab (kind==11) (
             ret 3) (
             ab (kind==13) (
              ret 3) (
              ab (kind==22) (
              ret 4) (
              ab (kind==27) (
               ret 5) (
               ret (-1)))))))))))))))))))))))))))))
noncomputable def qf {S:Type} (k:Nat) (kind:Int) (ret:Int→Option S):Option S:=FU k ret kind
def FV {S:Type} (k:Nat) (ret:Int→Option S) (kind:Int):Option S:=
 ab (kind==15) (
 ret 1) (
 ab (kind==17) (
  ret 1) (
  ab (kind==18) (
  ret 1) (
  ab (kind==16) (
   ret 2) (
   ret 0))))
noncomputable def il {S:Type} (k:Nat) (kind:Int) (ret:Int→Option S):Option S:=FV k ret kind
def tz {S:Type} (k:Nat) (ret:Bool→Option S) (s:ByteArray) (v8:Int) (x1:UInt8) (rec0:Int→Option S) (letter5:Bool):Option S:=
 ab (!letter5) (
 ab (v8==0) (
  ret false) (
  ab (decide (((x1.toNat:Int):Int)<48)) (
  ret false) (
  ab (decide (((x1.toNat:Int):Int)>57)) (
   ret false) (
     rec0 (IntKind.wrap .i64 (v8+1)))))) (
  rec0 (IntKind.wrap .i64 (v8+1)))
noncomputable def qV {S:Type} (k:Nat) (ret:Bool→Option S) (rec0:Int→Option S) (s:ByteArray) (v8:Int) (x1:UInt8):Nat→Bool→Option S
 |0=>fun _=> .none
 |_+1=>fun letter5=>tz k ret s v8 x1 rec0 letter5
def mA {S:Type} (k:Nat) (ret:Bool→Option S) (s:ByteArray) (J1:Int→UInt8→Bool→Option S) (rec0:Int→Option S) (v8:Int):Option S:=
 ab (decide ((v8:Int)<(s.size:Int))) (
 Option.bind (ar s.data.toList v8) fun x1=>
 ab (decide (((x1.toNat:Int):Int)≥97)) (
  ab (decide (((x1.toNat:Int):Int)≤122)) (
    J1 v8 x1 true) (
  ab (decide (((x1.toNat:Int):Int)≥65)) (
   ab (decide (((x1.toNat:Int):Int)≤90)) (
      J1 v8 x1 true) (
      J1 v8 x1 ((x1.toNat:Int)==95))) (
     J1 v8 x1 ((x1.toNat:Int)==95)))) (
  ab (decide (((x1.toNat:Int):Int)≥65)) (
  ab (decide (((x1.toNat:Int):Int)≤90)) (
     J1 v8 x1 true) (
     J1 v8 x1 ((x1.toNat:Int)==95))) (
    J1 v8 x1 ((x1.toNat:Int)==95)))) (
 ret (!(s==ByteArray.empty)))
noncomputable def jW {S:Type} (k:Nat) (ret:Bool→Option S) (s:ByteArray):Nat→Int→Option S
 |0=>fun _=> .none
 |m+1=>fun v8=>mA k ret s (fun v8 x1 letter5=>qV k ret (jW k ret s m) s v8 x1 k letter5) (jW k ret s m) v8
noncomputable def xY {S:Type} (k:Nat) (ret:Bool→Option S) (J0:Int→Option S) (s:ByteArray):Option S:=
 J0 0
noncomputable def qi {S:Type} (k:Nat) (s:ByteArray) (ret:Bool→Option S):Option S:=xY k ret (fun v8=>jW k ret s k v8) s
noncomputable def FJ {S:Type} (k:Nat) (ret:Bool→Option S) (s:Int):Option S:=
 ret ((aN .andNot .u32 s 16777215)==0)
noncomputable def kC {S:Type} (k:Nat) (s:Int) (ret:Bool→Option S):Option S:=FJ k ret s
def E0 {S:Type} (k:Nat) (ret:Bool→Option S) (c:Cl):Option S:=
 aa k (kC k c.pos) fun r1=>
 ab (r1) (
 aa k (kC k c.neg) fun r2=>
 ret r2) (
 ret false)
noncomputable def mK {S:Type} (k:Nat) (c:Cl) (ret:Bool→Option S):Option S:=E0 k ret c
noncomputable def EZ {S:Type} (k:Nat) (ret:Cl→Option S) (a b:Cl):Option S:=
 ret (Cl.mk (aN .or .u32 a.pos b.pos) (aN .or .u32 a.neg b.neg))
noncomputable def ku {S:Type} (k:Nat) (a b:Cl) (ret:Cl→Option S):Option S:=EZ k ret a b
noncomputable def EU {S:Type} (k:Nat) (ret:Bool→Option S) (a b:Cl):Option S:=
 aa k (ku k a b) fun r1=>
 ret ((r1.pos==a.pos)&&((r1.neg==a.neg)&&true))
noncomputable def pG {S:Type} (k:Nat) (a b:Cl) (ret:Bool→Option S):Option S:=EU k ret a b
def EX {S:Type} (k:Nat) (ret:Bool→Option S) (d c0:Cl):Option S:=
 ab (!((c0.pos==d.pos)&&((c0.neg==d.neg)&&true))) (
 aa k (pG k c0 d) fun r1=>
 ret r1) (
 ret false)
noncomputable def pI {S:Type} (k:Nat) (d c0:Cl) (ret:Bool→Option S):Option S:=EX k ret d c0
def pm {S:Type} (k:Nat) (ret:Int→Option S) (c0:Cl) (s:List Cl) (rec0:Int→Option S) (v8:Int):Option S:=
 ab (decide ((v8:Int)<(s.length:Int))) (
 Option.bind (ar s v8) fun x1=>
 aa k (pI k x1 c0) fun r2=>
 ab (r2) (
  ret v8) (
   rec0 (IntKind.wrap .i64 (v8+1)))) (
 ret (-1))
noncomputable def lf {S:Type} (k:Nat) (ret:Int→Option S) (c0:Cl) (s:List Cl):Nat→Int→Option S
 |0=>fun _=> .none
 |m+1=>fun v8=>pm k ret c0 s (lf k ret c0 s m) v8
noncomputable def xR {S:Type} (k:Nat) (ret:Int→Option S) (J0:Int→Option S) (s:List Cl) (c0:Cl):Option S:=
 J0 0
noncomputable def ug {S:Type} (k:Nat) (s:List Cl) (c0:Cl) (ret:Int→Option S):Option S:=xR k ret (fun v8=>lf k ret c0 s k v8) s c0
noncomputable def FO {S:Type} (k:Nat) (ret:Bool→Option S) (s:List Cl) (c0:Cl):Option S:=
 aa k (ug k s c0) fun r1=>
 ret (decide ((r1:Int)≥0))
noncomputable def ue {S:Type} (k:Nat) (s:List Cl) (c0:Cl) (ret:Bool→Option S):Option S:=FO k ret s c0
noncomputable def EW {S:Type} (k:Nat) (ret:Bool→Option S) (c:Cl) (c0:List Cl):Option S:=
 aa k (ue k c0 c) fun r1=>
 ret r1
noncomputable def pH {S:Type} (k:Nat) (c:Cl) (c0:List Cl) (ret:Bool→Option S):Option S:=EW k ret c c0
def oL {S:Type} (k:Nat) (ret:List Cl×Int→Option S) (b5_0:List Cl) (rec1:Int→(List Cl)→Option S) (v36:Int) (kept9:List Cl):Option S:=
 ab (decide ((v36:Int)<(b5_0.length:Int))) (
 Option.bind (ar b5_0 v36) fun x4=>
 aa k (pH k x4 b5_0) fun r5=>
 ab (!r5) (
  Option.bind (aR 1099511627776 kept9.length [x4].length) fun x6=>
   rec1 (IntKind.wrap .i64 (v36+1)) (kept9++[x4])) (
   rec1 (IntKind.wrap .i64 (v36+1)) kept9)) (
 ab (decide (((kept9.length:Int):Int)>64)) (
  ret (([]:List Cl),3)) (
  ret (sortCl kept9,0)))
noncomputable def jM {S:Type} (k:Nat) (ret:List Cl×Int→Option S) (b5_0:List Cl):Nat→Int→(List Cl)→Option S
 |0=>fun _ _=> .none
 |m+1=>fun v36 kept9=>oL k ret b5_0 (jM k ret b5_0 m) v36 kept9
def me {S:Type} (k:Nat) (ret:List Cl×Int→Option S) (l:List Cl) (J1:(List Cl)→Int→(List Cl)→Option S) (rec0:(List (Cl×Bool))→(List Cl)→Int→Option S) (b12_0:List (Cl×Bool)) (b5_0:List Cl) (v15:Int):Option S:=
 ab (decide ((v15:Int)<(l.length:Int))) (
 Option.bind (ar l v15) fun x1=>
 aa k (mK k x1) fun r2=>
 ab (!r2) (
  ret (([]:List Cl),2)) (
  ab (!((cP VV ET.C b12_0 x1).getD false)) (
  Option.bind (aR 1099511627776 b5_0.length [x1].length) fun x3=>
    rec0 (d5 VV ET.C b12_0 x1 true) (b5_0++[x1]) (IntKind.wrap .i64 (v15+1))) (
    rec0 b12_0 b5_0 (IntKind.wrap .i64 (v15+1))))) (
  J1 b5_0 0 ([]:List Cl))
noncomputable def kO {S:Type} (k:Nat) (ret:List Cl×Int→Option S) (l:List Cl):Nat→(List (Cl×Bool))→(List Cl)→Int→Option S
 |0=>fun _ _ _=> .none
 |m+1=>fun b12_0 b5_0 v15=>me k ret l (fun b5_0 v36 kept9=>jM k ret b5_0 k v36 kept9) (kO k ret l m) b12_0 b5_0 v15
noncomputable def xd {S:Type} (k:Nat) (ret:List Cl×Int→Option S) (J0:(List (Cl×Bool))→(List Cl)→Int→Option S) (l:List Cl):Option S:=
 J0 ([]:List (Cl×Bool)) ([]:List Cl) 0
noncomputable def eR {S:Type} (k:Nat) (l:List Cl) (ret:List Cl×Int→Option S):Option S:=xd k ret (fun b12_0 b5_0 v15=>kO k ret l k b12_0 b5_0 v15) l
def pk {S:Type} (k:Nat) (ret:Bool→Option S) (s1 s2:List Cl) (rec0:Int→Option S) (v13:Int):Option S:=
 ab (decide ((v13:Int)<(s1.length:Int))) (
 Option.bind (ar s1 v13) fun x1=>
 Option.bind (ar s2 v13) fun x2=>
 ab (!((x1.pos==x2.pos)&&((x1.neg==x2.neg)&&true))) (
  ret false) (
   rec0 (IntKind.wrap .i64 (v13+1)))) (
 ret true)
noncomputable def ld {S:Type} (k:Nat) (ret:Bool→Option S) (s1 s2:List Cl):Nat→Int→Option S
 |0=>fun _=> .none
 |m+1=>fun v13=>pk k ret s1 s2 (ld k ret s1 s2 m) v13
def xQ {S:Type} (k:Nat) (ret:Bool→Option S) (J0:Int→Option S) (s1 s2:List Cl):Option S:=
 ab (!((s1.length:Int)==(s2.length:Int))) (
 ret false) (
  J0 0)
noncomputable def qb {S:Type} (k:Nat) (s1 s2:List Cl) (ret:Bool→Option S):Option S:=xQ k ret (fun v13=>ld k ret s1 s2 k v13) s1 s2
def Fs {S:Type} (k:Nat) (ret:Bool→Option S) (f:List Cl):Option S:=
 aa k (eR k f) fun r1=>
 ab (r1.2==0) (
 aa k (qb k r1.1 f) fun r2=>
 ret r2) (
 ret false)
noncomputable def fg {S:Type} (k:Nat) (f:List Cl) (ret:Bool→Option S):Option S:=Fs k ret f
def FN {S:Type} (k:Nat) (ret:Bool→Option S) (i:Int):Option S:=
 ab (decide ((i:Int)≥0)) (
 ret (decide ((i:Int)<24))) (
 ret false)
noncomputable def jC {S:Type} (k:Nat) (i:Int) (ret:Bool→Option S):Option S:=FN k ret i
def FL {S:Type} (k:Nat) (ret:Int→Option S) (s i:Int):Option S:=
 aa k (jC k i) fun r1=>
 ab (!r1) (
 ret (aN .and .u32 s 16777215)) (
 Option.bind (bX (0≤(IntKind.wrap .u64 i))) fun x2=>
 ret (aN .andNot .u32 (aN .and .u32 s 16777215) (IntKind.wrap .u32 (1*2^min (Int.toNat (IntKind.wrap .u64 i)) 32))))
noncomputable def gG {S:Type} (k:Nat) (s i:Int) (ret:Int→Option S):Option S:=FL k ret s i
def oX {S:Type} (k:Nat) (ret:Int→Option S) (f:List Cl) (rec0:Int→Int→Option S) (s3 v8:Int):Option S:=
 ab (decide ((v8:Int)<(f.length:Int))) (
 Option.bind (ar f v8) fun x1=>
  rec0 (aN .or .u32 s3 (aN .or .u32 x1.pos x1.neg)) (IntKind.wrap .i64 (v8+1))) (
 aa k (gG k s3 (-1)) fun r2=>
 ret r2)
noncomputable def kU {S:Type} (k:Nat) (ret:Int→Option S) (f:List Cl):Nat→Int→Int→Option S
 |0=>fun _ _=> .none
 |m+1=>fun s3 v8=>oX k ret f (kU k ret f m) s3 v8
noncomputable def xx {S:Type} (k:Nat) (ret:Int→Option S) (J0:Int→Int→Option S) (f:List Cl):Option S:=
 J0 0 0
noncomputable def ky {S:Type} (k:Nat) (f:List Cl) (ret:Int→Option S):Option S:=xx k ret (fun s3 v8=>kU k ret f k s3 v8) f
def F1 {S:Type} (k:Nat) (ret:Bool→Option S) (f:List Cl) (dims:Int):Option S:=
 ab (decide ((dims:Int)≥24)) (
 ret true) (
 aa k (ky k f) fun r1=>
 Option.bind (bX (0≤(IntKind.wrap .u64 dims))) fun x2=>
 ret ((Int.fdiv r1 (2^min (Int.toNat (IntKind.wrap .u64 dims)) 32))==0))
noncomputable def io {S:Type} (k:Nat) (f:List Cl) (dims:Int) (ret:Bool→Option S):Option S:=F1 k ret f dims
noncomputable def EV {S:Type} (k:Nat) (ret:Bool→Option S) (c:Cl):Option S:=
 ret (!((aN .and .u32 c.pos c.neg)==0))
noncomputable def mJ {S:Type} (k:Nat) (c:Cl) (ret:Bool→Option S):Option S:=EV k ret c
def pn {S:Type} (k:Nat) (ret:Int→Option S) (s:List Cl) (rec0:Int→Option S) (v8:Int):Option S:=
 ab (decide ((v8:Int)<(s.length:Int))) (
 Option.bind (ar s v8) fun x1=>
 aa k (mJ k x1) fun r2=>
 ab (r2) (
  ret v8) (
   rec0 (IntKind.wrap .i64 (v8+1)))) (
 ret (-1))
noncomputable def lg {S:Type} (k:Nat) (ret:Int→Option S) (s:List Cl):Nat→Int→Option S
 |0=>fun _=> .none
 |m+1=>fun v8=>pn k ret s (lg k ret s m) v8
noncomputable def xS {S:Type} (k:Nat) (ret:Int→Option S) (J0:Int→Option S) (s:List Cl):Option S:=
 J0 0
noncomputable def uh {S:Type} (k:Nat) (s:List Cl) (ret:Int→Option S):Option S:=xS k ret (fun v8=>lg k ret s k v8) s
noncomputable def FP {S:Type} (k:Nat) (ret:Bool→Option S) (s:List Cl):Option S:=
 aa k (uh k s) fun r1=>
 ret (decide ((r1:Int)≥0))
noncomputable def uf {S:Type} (k:Nat) (s:List Cl) (ret:Bool→Option S):Option S:=FP k ret s
def Fe {S:Type} (k:Nat) (ret:Bool→Option S) (f:List Cl):Option S:=
 aa k (fg k f) fun r1=>
 ab (r1) (
 aa k (uf k f) fun r2=>
 ret (!r2)) (
 ret false)
noncomputable def h_ {S:Type} (k:Nat) (f:List Cl) (ret:Bool→Option S):Option S:=Fe k ret f
def pu {S:Type} (k:Nat) (ret:Bool→Option S) (t:Tm) (dims:Int) (rec1:Int→Option S) (v109:Int):Option S:=
 ab (decide ((v109:Int)<(t.sys.length:Int))) (
 Option.bind (ar t.sys v109) fun x12=>
 aa k (il k t.kind) fun r13=>
 ab (!((x12.kids.length:Int)==r13)) (
  ret false) (
  aa k (h_ k x12.face) fun r14=>
  ab (!r14) (
  ret false) (
  aa k (io k x12.face dims) fun r15=>
  ab (!r15) (
   ret false) (
     rec1 (IntKind.wrap .i64 (v109+1)))))) (
 ret ((t.r.length:Int)==0))
noncomputable def gT {S:Type} (k:Nat) (ret:Bool→Option S) (t:Tm) (dims:Int):Nat→Int→Option S
 |0=>fun _=> .none
 |m+1=>fun v109=>pu k ret t dims (gT k ret t dims m) v109
def mB {S:Type} (k:Nat) (ret:Bool→Option S) (t:Tm) (vars dims:Int) (J1:Int→Option S):Option S:=
 ab (t.kind==1) (
 ab ((t.r.length:Int)==0) (
  ab (decide ((t.n:Int)≥0)) (
  ab (decide ((vars:Int)<0)) (
   ret true) (
   ret (decide ((t.n:Int)<vars)))) (
  ret false)) (
  ret false)) (
 ab (t.kind==2) (
  ab ((t.r.length:Int)==0) (
  aa k (qi k t.name) fun r3=>
  ret r3) (
  ret false)) (
  ab (t.kind==13) (
  aa k (fg k t.r) fun r4=>
  ab (r4) (
   aa k (io k t.r dims) fun r5=>
   ret r5) (
   ret false)) (
  ab (t.kind==21) (
   aa k (fg k t.r) fun r6=>
   ab (r6) (
   aa k (io k t.r dims) fun r7=>
   ret r7) (
   ret false)) (
   ab (t.kind==26) (
   aa k (fg k t.r) fun r8=>
   ab (r8) (
    aa k (io k t.r dims) fun r9=>
    ret r9) (
    ret false)) (
   ab (t.kind==14) (
    aa k (h_ k t.r) fun r10=>
    ab (r10) (
    aa k (io k t.r dims) fun r11=>
    ret r11) (
    ret false)) (
       J1 0))))))
noncomputable def qW {S:Type} (k:Nat) (ret:Bool→Option S) (t:Tm) (vars dims:Int):Nat→Option S
 |0=> .none
 |_+1=>mB k ret t vars dims (fun v109=>gT k ret t dims k v109)
def xZ {S:Type} (k:Nat) (ret:Bool→Option S) (J0:Option S) (t:Tm) (vars dims:Int):Option S:=
 aa k (qf k t.kind) fun r1=>
 ab (!(r1==(t.kids.length:Int))) (
 ret false) (
 ab (!(t.kind==1)) (
  ab (!(t.n==0)) (
  ret false) (
  ab (!(t.kind==2)) (
   ab (!(t.name==ByteArray.empty)) (
   ret false) (
   aa k (il k t.kind) fun r2=>
   ab (r2==0) (
    ab (decide (((t.sys.length:Int):Int)>0)) (
    ret false) (
        J0)) (
       J0))) (
   aa k (il k t.kind) fun r16=>
   ab (r16==0) (
   ab (decide (((t.sys.length:Int):Int)>0)) (
    ret false) (
       J0)) (
      J0)))) (
  ab (!(t.kind==2)) (
  ab (!(t.name==ByteArray.empty)) (
   ret false) (
   aa k (il k t.kind) fun r17=>
   ab (r17==0) (
   ab (decide (((t.sys.length:Int):Int)>0)) (
    ret false) (
       J0)) (
      J0))) (
  aa k (il k t.kind) fun r18=>
  ab (r18==0) (
   ab (decide (((t.sys.length:Int):Int)>0)) (
   ret false) (
      J0)) (
     J0))))
noncomputable def mX {S:Type} (k:Nat) (t:Tm) (vars dims:Int) (ret:Bool→Option S):Option S:=xZ k ret (qW k ret t vars dims k) t vars dims
abbrev cr (S:Type):=Tm→Int→Int→Bool→(Bool→Option S)→Option S
def FX {S:Type} (hd:cr S) (k:Nat) (ret:Bool→Option S) (a_k:Tm) (v d c0 c1:Int) (c2:Bool):Option S:=
 ab (decide ((c0:Int)<0)) (
 hd (af a_k) (IntKind.wrap .i64 (c0+0)) (IntKind.wrap .i64 (c1+d)) c2 fun r1=>
 ret r1) (
 hd (af a_k) (IntKind.wrap .i64 (c0+v)) (IntKind.wrap .i64 (c1+d)) c2 fun r2=>
 ret r2)
noncomputable def mW {S:Type} (hd:cr S) (k:Nat) (a_k:Tm) (v d c0 c1:Int) (c2:Bool) (ret:Bool→Option S):Option S:=FX hd k ret a_k v d c0 c1 c2
def pq {S:Type} (hd:cr S) (k:Nat) (ret:Bool→Option S) (c0 c1:Int) (c2:Bool) (t:Tm) (v42:Int) (x4:(Br Tm)) (more9:Int) (rec1:Int→Int→Option S) (rec2:Int→Option S) (v49:Int):Option S:=
 ab (decide ((v49:Int)<(x4.kids.length:Int))) (
 Option.bind (ar x4.kids v49) fun x5=>
 aa k (mW hd k (af x5) 0 more9 c0 c1 c2) fun r6=>
 ab (!r6) (
  ret false) (
   rec2 (IntKind.wrap .i64 (v49+1)))) (
  rec1 (IntKind.wrap .i64 (v42+1)) more9)
noncomputable def iO {S:Type} (hd:cr S) (k:Nat) (ret:Bool→Option S) (rec1:Int→Int→Option S) (c0 c1:Int) (c2:Bool) (t:Tm) (v42:Int) (x4:(Br Tm)) (more9:Int):Nat→Int→Option S
 |0=>fun _=> .none
 |m+1=>fun v49=>pq hd k ret c0 c1 c2 t v42 x4 more9 rec1 (iO hd k ret rec1 c0 c1 c2 t v42 x4 more9 m) v49
def mw {S:Type} (hd:cr S) (k:Nat) (ret:Bool→Option S) (c0 c1:Int) (c2:Bool) (t:Tm) (J2:Int→(Br Tm)→Int→Int→Option S) (rec1:Int→Int→Option S) (v42 more9:Int):Option S:=
 ab (decide ((v42:Int)<(t.sys.length:Int))) (
 Option.bind (ar t.sys v42) fun x4=>
  J2 v42 x4 more9 0) (
 ret true)
noncomputable def fz {S:Type} (hd:cr S) (k:Nat) (ret:Bool→Option S) (c0 c1:Int) (c2:Bool) (t:Tm):Nat→Int→Int→Option S
 |0=>fun _ _=> .none
 |m+1=>fun v42 more9=>mw hd k ret c0 c1 c2 t (fun v42 x4 more9 v49=>iO hd k ret (fz hd k ret c0 c1 c2 t m) c0 c1 c2 t v42 x4 more9 k v49) (fz hd k ret c0 c1 c2 t m) v42 more9
def mu {S:Type} (hd:cr S) (k:Nat) (ret:Bool→Option S) (c0 c1:Int) (c2:Bool) (t:Tm) (J1:Int→Int→Option S) (rec0:Int→Option S) (v17:Int):Option S:=
 ab (decide ((v17:Int)<(t.kids.length:Int))) (
 Option.bind (ar t.kids v17) fun x1=>
 aa k (ij k t.kind v17) fun r2=>
 aa k (mW hd k (af x1) r2.1 r2.2 c0 c1 c2) fun r3=>
 ab (!r3) (
  ret false) (
   rec0 (IntKind.wrap .i64 (v17+1)))) (
 ab (t.kind==15) (
   J1 0 1) (
   J1 0 0))
noncomputable def jV {S:Type} (hd:cr S) (k:Nat) (ret:Bool→Option S) (c0 c1:Int) (c2:Bool) (t:Tm):Nat→Int→Option S
 |0=>fun _=> .none
 |m+1=>fun v17=>mu hd k ret c0 c1 c2 t (fun v42 more9=>fz hd k ret c0 c1 c2 t k v42 more9) (jV hd k ret c0 c1 c2 t m) v17
noncomputable def xW {S:Type} (hd:cr S) (k:Nat) (ret:Bool→Option S) (J0:Int→Option S) (t:Tm) (c0 c1:Int) (c2:Bool):Option S:=
 J0 0
noncomputable def qh {S:Type} (hd:cr S) (k:Nat) (t:Tm) (c0 c1:Int) (c2:Bool) (ret:Bool→Option S):Option S:=xW hd k ret (fun v17=>jV hd k ret c0 c1 c2 t k v17) t c0 c1 c2
def FW {S:Type} (hd:cr S) (k:Nat) (ret:Bool→Option S) (t:Tm) (vars dims:Int) (bound:Bool):Option S:=
 ab (bound) (
 ab (decide ((dims:Int)>24)) (
  ret false) (
  aa k (mX k (af t) vars dims) fun r1=>
  ab (!r1) (
  ret false) (
  aa k (qh hd k (af t) vars dims bound) fun r2=>
  ret r2))) (
 aa k (mX k (af t) vars dims) fun r3=>
 ab (!r3) (
  ret false) (
  aa k (qh hd k (af t) vars dims bound) fun r4=>
  ret r4))
noncomputable def eo {S:Type}:Nat→Tm→Int→Int→Bool→(Bool→Option S)→Option S
 |0=>fun _ _ _ _ _=> .none
 |k+1=>fun t vars dims bound ret=>FW (eo k) k ret t vars dims bound
def FT {S:Type} (k:Nat) (ret:Int→Option S) (t:Tm):Option S:=
 aa k (mZ k (af t)) fun r1=>
 ab (!(r1==0)) (
 ret r1) (
 eo k (af t) (-1) 24 false fun r2=>
 ab (!r2) (
  ret 100) (
  ret 0))
noncomputable def ik {S:Type} (k:Nat) (t:Tm) (ret:Int→Option S):Option S:=FT k ret t
def EQ {S:Type} (k:Nat) (ret:Int→Option S) (a_e c0:Int):Option S:=
 ab (c0==0) (
 ret a_e) (
 ret c0)
noncomputable def ff {S:Type} (k:Nat) (a_e c0:Int) (ret:Int→Option S):Option S:=EQ k ret a_e c0
def oK {S:Type} (k:Nat) (ret:Int→Option S) (l:List Tm) (rec0:Int→Int→Option S) (b7_0 v10:Int):Option S:=
 ab (decide ((v10:Int)<(l.length:Int))) (
 Option.bind (ar l v10) fun x1=>
 aa k (ik k (af x1)) fun r2=>
 aa k (ff k r2 b7_0) fun r3=>
  rec0 r3 (IntKind.wrap .i64 (v10+1))) (
 ret b7_0)
noncomputable def kN {S:Type} (k:Nat) (ret:Int→Option S) (l:List Tm):Nat→Int→Int→Option S
 |0=>fun _ _=> .none
 |m+1=>fun b7_0 v10=>oK k ret l (kN k ret l m) b7_0 v10
noncomputable def w8 {S:Type} (k:Nat) (ret:Int→Option S) (J0:Int→Int→Option S) (l:List Tm):Option S:=
 J0 0 0
noncomputable def kr {S:Type} (k:Nat) (l:List Tm) (ret:Int→Option S):Option S:=w8 k ret (fun b7_0 v10=>kN k ret l k b7_0 v10) l
noncomputable def gr {S:Type} (k:Nat) (ret:Bool→Option S) (c0:Int):Option S:=
 ret (c0==0)
noncomputable def cS {S:Type} (k:Nat) (c0:Int) (ret:Bool→Option S):Option S:=gr k ret c0
def o_ {S:Type} (k:Nat) (ret:Int→Option S) (l:List (List Cl)) (rec0:Int→Option S) (v7:Int):Option S:=
 ab (decide ((v7:Int)<(l.length:Int))) (
 Option.bind (ar l v7) fun x1=>
 aa k (fg k x1) fun r2=>
 ab (!r2) (
  ret 2) (
   rec0 (IntKind.wrap .i64 (v7+1)))) (
 ret 0)
noncomputable def kZ {S:Type} (k:Nat) (ret:Int→Option S) (l:List (List Cl)):Nat→Int→Option S
 |0=>fun _=> .none
 |m+1=>fun v7=>o_ k ret l (kZ k ret l m) v7
noncomputable def xF {S:Type} (k:Nat) (ret:Int→Option S) (J0:Int→Option S) (l:List (List Cl)):Option S:=
 J0 0
noncomputable def kA {S:Type} (k:Nat) (l:List (List Cl)) (ret:Int→Option S):Option S:=xF k ret (fun v7=>kZ k ret l k v7) l
noncomputable def sx {S:Type} (k:Nat) (ret:List Cl→Option S):Option S:=
 ret ([]:List Cl)
noncomputable def jA {S:Type} (k:Nat) (ret:List Cl→Option S):Option S:=sx k ret
noncomputable def FM {S:Type} (k:Nat) (ret:Int→Option S) (i:Int):Option S:=
 Option.bind (bX (0≤(IntKind.wrap .u64 (if 24<i then 24 else i)))) fun x1=>
 ret (IntKind.wrap .u32 (IntKind.wrap .u64 ((IntKind.wrap .u64 (1*2^min (Int.toNat (IntKind.wrap .u64 (if 24<i then 24 else i))) 64))-1)))
noncomputable def kE {S:Type} (k:Nat) (i:Int) (ret:Int→Option S):Option S:=FM k ret i
def sz {S:Type} (k:Nat) (ret:Int×Int→Option S) (s a_from a_by:Int):Option S:=
 ab (decide ((a_from:Int)<0)) (
 ret (0,2)) (
 ab (decide ((a_by:Int)<0)) (
  ret (0,2)) (
  aa k (kE k a_from) fun r1=>
  aa k (kE k a_from) fun r2=>
  ab ((IntKind.wrap .u64 (aN .andNot .u32 (aN .and .u32 s 16777215) r2))==0) (
  ret (aN .and .u32 (aN .and .u32 s 16777215) r1,0)) (
  ab (decide ((a_by:Int)≥24)) (
   ret (0,10)) (
   Option.bind (bX (0≤(IntKind.wrap .u64 a_by))) fun x3=>
   ab (decide ((IntKind.wrap .u64 ((IntKind.wrap .u64 (aN .andNot .u32 (aN .and .u32 s 16777215) r2))*2^min (Int.toNat (IntKind.wrap .u64 a_by)) 64):Int)>16777215)) (
   ret (0,10)) (
   Option.bind (bX (0≤(IntKind.wrap .u64 a_by))) fun x4=>
   ret (aN .or .u32 (aN .and .u32 (aN .and .u32 s 16777215) r1) (IntKind.wrap .u32 (IntKind.wrap .u64 ((IntKind.wrap .u64 (aN .andNot .u32 (aN .and .u32 s 16777215) r2))*2^min (Int.toNat (IntKind.wrap .u64 a_by)) 64))),0))))))
noncomputable def ig {S:Type} (k:Nat) (s a_from a_by:Int) (ret:Int×Int→Option S):Option S:=sz k ret s a_from a_by
def EY {S:Type} (k:Nat) (ret:Cl×Int→Option S) (c:Cl) (a_from a_by:Int):Option S:=
 aa k (mK k c) fun r1=>
 ab (!r1) (
 ret ((Cl.mk 0 0),2)) (
 aa k (ig k c.pos a_from a_by) fun r2=>
 ab (!(r2.2==0)) (
  ret ((Cl.mk 0 0),r2.2)) (
  aa k (ig k c.neg a_from a_by) fun r3=>
  ab (!(r3.2==0)) (
  ret ((Cl.mk 0 0),r3.2)) (
  ret ((Cl.mk r2.1 r3.1),0))))
noncomputable def pJ {S:Type} (k:Nat) (c:Cl) (a_from a_by:Int) (ret:Cl×Int→Option S):Option S:=EY k ret c a_from a_by
noncomputable def Fo {S:Type} (k:Nat) (ret:List Cl×Int→Option S) (a_have:List Cl) (c:Cl) (c0 c1:Int):Option S:=
 aa k (pJ k c c0 c1) fun r1=>
 Option.bind (aR 1099511627776 a_have.length [r1.1].length) fun x2=>
 ret (a_have++[r1.1],r1.2)
noncomputable def tY {S:Type} (k:Nat) (a_have:List Cl) (c:Cl) (c0 c1:Int) (ret:List Cl×Int→Option S):Option S:=Fo k ret a_have c c0 c1
def o0 {S:Type} (k:Nat) (ret:List Cl×Int→Option S) (c0 c1:Int) (l:List Cl) (rec0:(List Cl)→Int→Option S) (v1:List Cl) (v15:Int):Option S:=
 ab (decide ((v15:Int)<(l.length:Int))) (
 Option.bind (ar l v15) fun x1=>
 aa k (tY k v1 x1 c0 c1) fun r2=>
 ab (!(r2.2==0)) (
  ret (([]:List Cl),r2.2)) (
   rec0 r2.1 (IntKind.wrap .i64 (v15+1)))) (
 ret (v1,0))
noncomputable def kX {S:Type} (k:Nat) (ret:List Cl×Int→Option S) (c0 c1:Int) (l:List Cl):Nat→(List Cl)→Int→Option S
 |0=>fun _ _=> .none
 |m+1=>fun v1 v15=>o0 k ret c0 c1 l (kX k ret c0 c1 l m) v1 v15
noncomputable def xB {S:Type} (k:Nat) (ret:List Cl×Int→Option S) (J0:(List Cl)→Int→Option S) (l a_from:List Cl) (c0 c1:Int):Option S:=
 J0 a_from 0
noncomputable def pY {S:Type} (k:Nat) (l a_from:List Cl) (c0 c1:Int) (ret:List Cl×Int→Option S):Option S:=xB k ret (fun v1 v15=>kX k ret c0 c1 l k v1 v15) l a_from c0 c1
def Fl {S:Type} (k:Nat) (ret:List Cl×Int→Option S) (f:List Cl) (a_from a_by:Int):Option S:=
 aa k (kA k [f]) fun r1=>
 ab (!(r1==0)) (
 ret (([]:List Cl),r1)) (
 aa k (jA k) fun r2=>
 aa k (pY k f r2 a_from a_by) fun r3=>
 ab (!(r3.2==0)) (
  ret (([]:List Cl),r3.2)) (
  aa k (eR k r3.1) fun r4=>
  ret (r4.1,r4.2)))
noncomputable def ic {S:Type} (k:Nat) (f:List Cl) (a_from a_by:Int) (ret:List Cl×Int→Option S):Option S:=Fl k ret f a_from a_by
def ER {S:Type} (k:Nat) (ret:List Cl×Int→Option S) (f:List Cl) (c0:Int):Option S:=
 aa k (cS k c0) fun r1=>
 ab (!r1) (
 ret (([]:List Cl),c0)) (
 aa k (ic k f 0 1) fun r2=>
 aa k (ff k r2.2 c0) fun r3=>
 ret (r2.1,r3))
noncomputable def jx {S:Type} (k:Nat) (f:List Cl) (c0:Int) (ret:List Cl×Int→Option S):Option S:=ER k ret f c0
def yB {S:Type} (k:Nat) (ret:Int→Option S) (l:List (List Cl)) (rec0:Int→Option S) (v7:Int):Option S:=
 ab (decide ((v7:Int)<(l.length:Int))) (
 Option.bind (ar l v7) fun x1=>
 aa k (h_ k x1) fun r2=>
 ab (!r2) (
  ret 2) (
   rec0 (IntKind.wrap .i64 (v7+1)))) (
 ret 0)
noncomputable def u_ {S:Type} (k:Nat) (ret:Int→Option S) (l:List (List Cl)):Nat→Int→Option S
 |0=>fun _=> .none
 |m+1=>fun v7=>yB k ret l (u_ k ret l m) v7
noncomputable def Fj {S:Type} (k:Nat) (ret:Int→Option S) (J0:Int→Option S) (l:List (List Cl)):Option S:=
 J0 0
noncomputable def y9 {S:Type} (k:Nat) (l:List (List Cl)) (ret:Int→Option S):Option S:=Fj k ret (fun v7=>u_ k ret l k v7) l
noncomputable def Fh {S:Type} (k:Nat) (ret:List Cl×Int→Option S) (f g:List Cl):Option S:=
 Option.bind (aR 1099511627776 ([]:List Cl).length f.length) fun x1=>
 Option.bind (aR 1099511627776 (([]:List Cl)++f).length g.length) fun x2=>
 aa k (eR k ((([]:List Cl)++f)++g)) fun r3=>
 ret (r3.1,r3.2)
noncomputable def mR {S:Type} (k:Nat) (f g:List Cl) (ret:List Cl×Int→Option S):Option S:=Fh k ret f g
def SI {S:Type} (k:Nat) (ret:List Cl×Int→Option S) (f g:List Cl):Option S:=
 aa k (y9 k [f,g]) fun r1=>
 ab (!(r1==0)) (
 ret (([]:List Cl),r1)) (
 aa k (mR k f g) fun r2=>
 ret (r2.1,r2.2))
noncomputable def y8 {S:Type} (k:Nat) (f g:List Cl) (ret:List Cl×Int→Option S):Option S:=SI k ret f g
def SG {S:Type} (k:Nat) (ret:List Cl×Int→Option S) (f g:List Cl) (c0:Int):Option S:=
 aa k (cS k c0) fun r1=>
 ab (!r1) (
 ret (([]:List Cl),c0)) (
 aa k (y8 k f g) fun r2=>
 aa k (ff k r2.2 c0) fun r3=>
 ret (r2.1,r3))
noncomputable def tN {S:Type} (k:Nat) (f g:List Cl) (c0:Int) (ret:List Cl×Int→Option S):Option S:=SG k ret f g c0
def FG {S:Type} (k:Nat) (ret:Pan Int (List Cl)→Option S) (l_0 l_1:Int) (f:List Cl) (a_from:Int):Option S:=
 ab (l_1==0) (
 Option.bind (aR 1099511627776 0 f.length) fun x1=>
 ret (.ok f)) (
 ab (decide ((a_from:Int)≥24)) (
  Option.bind (aR 1099511627776 0 f.length) fun x2=>
  ret (.ok f)) (
  aa k (ic k f a_from l_1) fun r3=>
  ab (!(r3.2==0)) (
  ret (.pan r3.2)) (
  ret (.ok r3.1))))
noncomputable def mU {S:Type} (k:Nat) (l_0 l_1:Int) (f:List Cl) (a_from:Int) (ret:Pan Int (List Cl)→Option S):Option S:=FG k ret l_0 l_1 f a_from
abbrev ee (S:Type):=Int→Int→Tm→Int→Int→(Pan Int Tm→Option S)→Option S
def pf {S:Type} (hd:ee S) (k:Nat) (ret:Pan Int Tm→Option S) (r12:List Cl) (l_0 l_1:Int) (t:Tm) (b9_1:Int) (r2:List Cl) (b9_4:List Tm) (b9_5:List (Br Tm)) (x10:(Br Tm)) (more14 v d v90:Int) (rec2:(List (Br Tm))→Int→Int→Option S) (rec3:(List Tm)→Int→Option S) (b17_1:List Tm) (v103:Int):Option S:=
 ab (decide ((v103:Int)<(x10.kids.length:Int))) (
 Option.bind (ar x10.kids v103) fun x14=>
 hd l_0 l_1 (af x14) v (IntKind.wrap .i64 (d+more14)) fun r16=>Pan.elim r16 (fun r16=>
  Option.bind (aR 1099511627776 b17_1.length [(af r16)].length) fun x18=>
   rec3 (b17_1++[(af r16)]) (IntKind.wrap .i64 (v103+1))) (fun e17=>
  ret (.pan e17))) (
 Option.bind (aR 1099511627776 b9_5.length [(Br.mk r12 b17_1)].length) fun x19=>
  rec2 (b9_5++[(Br.mk r12 b17_1)]) more14 (IntKind.wrap .i64 (v90+1)))
noncomputable def iN {S:Type} (hd:ee S) (k:Nat) (ret:Pan Int Tm→Option S) (rec2:(List (Br Tm))→Int→Int→Option S) (r12:List Cl) (l_0 l_1:Int) (t:Tm) (b9_1:Int) (r2:List Cl) (b9_4:List Tm) (b9_5:List (Br Tm)) (x10:(Br Tm)) (more14 v d v90:Int):Nat→(List Tm)→Int→Option S
 |0=>fun _ _=> .none
 |m+1=>fun b17_1 v103=>pf hd k ret r12 l_0 l_1 t b9_1 r2 b9_4 b9_5 x10 more14 v d v90 rec2 (iN hd k ret rec2 r12 l_0 l_1 t b9_1 r2 b9_4 b9_5 x10 more14 v d v90 m) b17_1 v103
def mm {S:Type} (hd:ee S) (k:Nat) (ret:Pan Int Tm→Option S) (l_0 l_1:Int) (t:Tm) (b9_1:Int) (r2:List Cl) (b9_4:List Tm) (v d:Int) (J3:(List Cl)→(List (Br Tm))→(Br Tm)→Int→Int→(List Tm)→Int→Option S) (rec2:(List (Br Tm))→Int→Int→Option S) (b9_5:List (Br Tm)) (more14 v90:Int):Option S:=
 ab (decide ((v90:Int)<(t.sys.length:Int))) (
 Option.bind (ar t.sys v90) fun x10=>
 aa k (mU k l_0 l_1 x10.face d) fun r12=>Pan.elim r12 (fun r12=>
   J3 r12 b9_5 x10 more14 v90 ([]:List Tm) 0) (fun e13=>
  ret (.pan e13))) (
 ret (.ok (Tm.mk t.kind b9_1 t.name r2 b9_4 b9_5)))
noncomputable def d3 {S:Type} (hd:ee S) (k:Nat) (ret:Pan Int Tm→Option S) (l_0 l_1:Int) (t:Tm) (b9_1:Int) (r2:List Cl) (b9_4:List Tm) (v d:Int):Nat→(List (Br Tm))→Int→Int→Option S
 |0=>fun _ _ _=> .none
 |m+1=>fun b9_5 more14 v90=>mm hd k ret l_0 l_1 t b9_1 r2 b9_4 v d (fun r12 b9_5 x10 more14 v90 b17_1 v103=>iN hd k ret (d3 hd k ret l_0 l_1 t b9_1 r2 b9_4 v d m) r12 l_0 l_1 t b9_1 r2 b9_4 b9_5 x10 more14 v d v90 k b17_1 v103) (d3 hd k ret l_0 l_1 t b9_1 r2 b9_4 v d m) b9_5 more14 v90
def ml {S:Type} (hd:ee S) (k:Nat) (ret:Pan Int Tm→Option S) (l_0 l_1:Int) (t:Tm) (b9_1:Int) (r2:List Cl) (v d:Int) (J2:(List Tm)→(List (Br Tm))→Int→Int→Option S) (rec1:(List Tm)→Int→Option S) (b9_4:List Tm) (v57:Int):Option S:=
 ab (decide ((v57:Int)<(t.kids.length:Int))) (
 Option.bind (ar t.kids v57) fun x4=>
 aa k (ij k t.kind v57) fun r5=>
 hd l_0 l_1 (af x4) (IntKind.wrap .i64 (v+r5.1)) (IntKind.wrap .i64 (d+r5.2)) fun r7=>Pan.elim r7 (fun r7=>
  Option.bind (aR 1099511627776 b9_4.length [(af r7)].length) fun x9=>
   rec1 (b9_4++[(af r7)]) (IntKind.wrap .i64 (v57+1))) (fun e8=>
  ret (.pan e8))) (
 ab (t.kind==15) (
   J2 b9_4 ([]:List (Br Tm)) 1 0) (
   J2 b9_4 ([]:List (Br Tm)) 0 0))
noncomputable def gR {S:Type} (hd:ee S) (k:Nat) (ret:Pan Int Tm→Option S) (l_0 l_1:Int) (t:Tm) (b9_1:Int) (r2:List Cl) (v d:Int):Nat→(List Tm)→Int→Option S
 |0=>fun _ _=> .none
 |m+1=>fun b9_4 v57=>ml hd k ret l_0 l_1 t b9_1 r2 v d (fun b9_4 b9_5 more14 v90=>d3 hd k ret l_0 l_1 t b9_1 r2 b9_4 v d k b9_5 more14 v90) (gR hd k ret l_0 l_1 t b9_1 r2 v d m) b9_4 v57
noncomputable def tw {S:Type} (hd:ee S) (k:Nat) (ret:Pan Int Tm→Option S) (l_0 l_1:Int) (t:Tm) (r2:List Cl) (v d:Int) (J1:Int→(List Tm)→Int→Option S) (b9_1:Int):Option S:=
 J1 b9_1 ([]:List Tm) 0
noncomputable def nj {S:Type} (hd:ee S) (k:Nat) (ret:Pan Int Tm→Option S) (l_0 l_1:Int) (t:Tm) (r2:List Cl) (v d:Int):Nat→Int→Option S
 |0=>fun _=> .none
 |_+1=>fun b9_1=>tw hd k ret l_0 l_1 t r2 v d (fun b9_1 b9_4 v57=>gR hd k ret l_0 l_1 t b9_1 r2 v d k b9_4 v57) b9_1
def xK {S:Type} (hd:ee S) (k:Nat) (ret:Pan Int Tm→Option S) (J0:(List Cl)→Int→Option S) (l_0 l_1:Int) (t:Tm) (v d:Int):Option S:=
 aa k (mU k l_0 l_1 t.r d) fun r2=>Pan.elim r2 (fun r2=>
 ab (t.kind==1) (
  ab (decide ((t.n:Int)≥v)) (
  ab (decide ((t.n:Int)>(IntKind.wrap .i64 (1000000000-l_0)))) (
   ret (.pan 100)) (
     J0 r2 (IntKind.wrap .i64 (t.n+l_0)))) (
    J0 r2 t.n)) (
   J0 r2 t.n)) (fun e3=>
 ret (.pan e3))
noncomputable def cL {S:Type}:Nat→Int→Int→Tm→Int→Int→(Pan Int Tm→Option S)→Option S
 |0=>fun _ _ _ _ _ _=> .none
 |k+1=>fun l_0 l_1 t v d ret=>xK (cL k) k ret (fun r2 b9_1=>nj (cL k) k ret l_0 l_1 t r2 v d k b9_1) l_0 l_1 t v d
noncomputable def FF {S:Type} (k:Nat) (ret:Pan Int Tm→Option S) (c0:Int) (c1:Tm) (c2:Int):Option S:=
 cL k 0 c0 (af c1) 0 (if 24<c2 then 24 else c2) fun r2=>Pan.elim r2 (fun r2=>
 ret (.ok (af r2))) (fun e3=>
 ret (.pan e3))
noncomputable def p_ {S:Type} (k:Nat) (c0:Int) (c1:Tm) (c2:Int) (ret:Pan Int Tm→Option S):Option S:=FF k ret c0 c1 c2
def pd {S:Type} (k:Nat) (ret:Tm×Int→Option S) (c0:Int) (c1:Tm) (c2:Int) (numbers:List Int) (rec0:Int→Option S) (v19:Int):Option S:=
 ab (decide ((v19:Int)<(numbers.length:Int))) (
 Option.bind (ar numbers v19) fun x2=>
 ab (decide ((x2:Int)<0)) (
  ret ((Tm.mk 0 0 ByteArray.empty [] [] []),2)) (
   rec0 (IntKind.wrap .i64 (v19+1)))) (
 aa k (p_ k c0 (af c1) c2) fun r4=>Pan.elim r4 (fun r4=>
  ret ((af r4),0)) (fun e5=>
  ret ((Tm.mk 0 0 ByteArray.empty [] [] []),e5)))
noncomputable def jQ {S:Type} (k:Nat) (ret:Tm×Int→Option S) (c0:Int) (c1:Tm) (c2:Int) (numbers:List Int):Nat→Int→Option S
 |0=>fun _=> .none
 |m+1=>fun v19=>pd k ret c0 c1 c2 numbers (jQ k ret c0 c1 c2 numbers m) v19
def xH {S:Type} (k:Nat) (ret:Tm×Int→Option S) (J0:Int→Option S) (t:Tm) (numbers:List Int) (c0:Int) (c1:Tm) (c2:Int):Option S:=
 aa k (ik k (af t)) fun r1=>
 ab (!(r1==0)) (
 ret ((Tm.mk 0 0 ByteArray.empty [] [] []),r1)) (
  J0 0)
noncomputable def ub {S:Type} (k:Nat) (t:Tm) (numbers:List Int) (c0:Int) (c1:Tm) (c2:Int) (ret:Tm×Int→Option S):Option S:=xH k ret (fun v19=>jQ k ret c0 c1 c2 numbers k v19) t numbers c0 c1 c2
noncomputable def FE {S:Type} (k:Nat) (ret:Tm×Int→Option S) (t:Tm) (a_from a_by:Int):Option S:=
 aa k (ub k (af t) [a_from,a_by] a_by (af t) a_from) fun r1=>
 ret ((af r1.1),r1.2)
noncomputable def p9 {S:Type} (k:Nat) (t:Tm) (a_from a_by:Int) (ret:Tm×Int→Option S):Option S:=FE k ret t a_from a_by
def FK {S:Type} (k:Nat) (ret:Int→Option S) (s i:Int):Option S:=
 aa k (jC k i) fun r1=>
 ab (!r1) (
 ret (aN .and .u32 s 16777215)) (
 Option.bind (bX (0≤(IntKind.wrap .u64 i))) fun x2=>
 ret (aN .or .u32 (aN .and .u32 s 16777215) (IntKind.wrap .u32 (1*2^min (Int.toNat (IntKind.wrap .u64 i)) 32))))
noncomputable def fU {S:Type} (k:Nat) (s i:Int) (ret:Int→Option S):Option S:=FK k ret s i
noncomputable def SK {S:Type} (k:Nat) (ret:Int→Option S) (a_x:Int):Option S:=
 Option.bind (ar (ByteArray.mk #[0,1,1,2,1,2,2,3,1,2,2,3,2,3,3,4,1,2,2,3,2,3,3,4,2,3,3,4,3,4,4,5,1,2,2,3,2,3,3,4,2,3,3,4,3,4,4,5,2,3,3,4,3,4,4,5,3,4,4,5,4,5,5,6,1,2,2,3,2,3,3,4,2,3,3,4,3,4,4,5,2,3,3,4,3,4,4,5,3,4,4,5,4,5,5,6,2,3,3,4,3,4,4,5,3,4,4,5,4,5,5,6,3,4,4,5,4,5,5,6,4,5,5,6,5,6,6,7,1,2,2,3,2,3,3,4,2,3,3,4,3,4,4,5,2,3,3,4,3,4,4,5,3,4,4,5,4,5,5,6,2,3,3,4,3,4,4,5,3,4,4,5,4,5,5,6,3,4,4,5,4,5,5,6,4,5,5,6,5,6,6,7,2,3,3,4,3,4,4,5,3,4,4,5,4,5,5,6,3,4,4,5,4,5,5,6,4,5,5,6,5,6,6,7,3,4,4,5,4,5,5,6,4,5,5,6,5,6,6,7,4,5,5,6,5,6,6,7,5,6,6,7,6,7,7,8]).data.toList (Int.fdiv a_x (2^min (Int.toNat 24) 32))) fun x1=>
 Option.bind (ar (ByteArray.mk #[0,1,1,2,1,2,2,3,1,2,2,3,2,3,3,4,1,2,2,3,2,3,3,4,2,3,3,4,3,4,4,5,1,2,2,3,2,3,3,4,2,3,3,4,3,4,4,5,2,3,3,4,3,4,4,5,3,4,4,5,4,5,5,6,1,2,2,3,2,3,3,4,2,3,3,4,3,4,4,5,2,3,3,4,3,4,4,5,3,4,4,5,4,5,5,6,2,3,3,4,3,4,4,5,3,4,4,5,4,5,5,6,3,4,4,5,4,5,5,6,4,5,5,6,5,6,6,7,1,2,2,3,2,3,3,4,2,3,3,4,3,4,4,5,2,3,3,4,3,4,4,5,3,4,4,5,4,5,5,6,2,3,3,4,3,4,4,5,3,4,4,5,4,5,5,6,3,4,4,5,4,5,5,6,4,5,5,6,5,6,6,7,2,3,3,4,3,4,4,5,3,4,4,5,4,5,5,6,3,4,4,5,4,5,5,6,4,5,5,6,5,6,6,7,3,4,4,5,4,5,5,6,4,5,5,6,5,6,6,7,4,5,5,6,5,6,6,7,5,6,6,7,6,7,7,8]).data.toList (aN .and .u32 (Int.fdiv a_x (2^min (Int.toNat 16) 32)) 255)) fun x2=>
 Option.bind (ar (ByteArray.mk #[0,1,1,2,1,2,2,3,1,2,2,3,2,3,3,4,1,2,2,3,2,3,3,4,2,3,3,4,3,4,4,5,1,2,2,3,2,3,3,4,2,3,3,4,3,4,4,5,2,3,3,4,3,4,4,5,3,4,4,5,4,5,5,6,1,2,2,3,2,3,3,4,2,3,3,4,3,4,4,5,2,3,3,4,3,4,4,5,3,4,4,5,4,5,5,6,2,3,3,4,3,4,4,5,3,4,4,5,4,5,5,6,3,4,4,5,4,5,5,6,4,5,5,6,5,6,6,7,1,2,2,3,2,3,3,4,2,3,3,4,3,4,4,5,2,3,3,4,3,4,4,5,3,4,4,5,4,5,5,6,2,3,3,4,3,4,4,5,3,4,4,5,4,5,5,6,3,4,4,5,4,5,5,6,4,5,5,6,5,6,6,7,2,3,3,4,3,4,4,5,3,4,4,5,4,5,5,6,3,4,4,5,4,5,5,6,4,5,5,6,5,6,6,7,3,4,4,5,4,5,5,6,4,5,5,6,5,6,6,7,4,5,5,6,5,6,6,7,5,6,6,7,6,7,7,8]).data.toList (aN .and .u32 (Int.fdiv a_x (2^min (Int.toNat 8) 32)) 255)) fun x3=>
 Option.bind (ar (ByteArray.mk #[0,1,1,2,1,2,2,3,1,2,2,3,2,3,3,4,1,2,2,3,2,3,3,4,2,3,3,4,3,4,4,5,1,2,2,3,2,3,3,4,2,3,3,4,3,4,4,5,2,3,3,4,3,4,4,5,3,4,4,5,4,5,5,6,1,2,2,3,2,3,3,4,2,3,3,4,3,4,4,5,2,3,3,4,3,4,4,5,3,4,4,5,4,5,5,6,2,3,3,4,3,4,4,5,3,4,4,5,4,5,5,6,3,4,4,5,4,5,5,6,4,5,5,6,5,6,6,7,1,2,2,3,2,3,3,4,2,3,3,4,3,4,4,5,2,3,3,4,3,4,4,5,3,4,4,5,4,5,5,6,2,3,3,4,3,4,4,5,3,4,4,5,4,5,5,6,3,4,4,5,4,5,5,6,4,5,5,6,5,6,6,7,2,3,3,4,3,4,4,5,3,4,4,5,4,5,5,6,3,4,4,5,4,5,5,6,4,5,5,6,5,6,6,7,3,4,4,5,4,5,5,6,4,5,5,6,5,6,6,7,4,5,5,6,5,6,6,7,5,6,6,7,6,7,7,8]).data.toList (aN .and .u32 a_x 255)) fun x4=>
 ret (IntKind.wrap .i64 (IntKind.wrap .u8 ((IntKind.wrap .u8 ((IntKind.wrap .u8 ((x1.toNat:Int)+(x2.toNat:Int)))+(x3.toNat:Int)))+(x4.toNat:Int))))
noncomputable def y_ {S:Type} (k:Nat) (a_x:Int) (ret:Int→Option S):Option S:=SK k ret a_x
noncomputable def xL {S:Type} (k:Nat) (ret:Int→Option S) (s:Int):Option S:=
 aa k (y_ k (aN .and .u32 s 16777215)) fun r1=>
 ret r1
noncomputable def ie {S:Type} (k:Nat) (s:Int) (ret:Int→Option S):Option S:=xL k ret s
noncomputable def E2 {S:Type} (k:Nat) (ret:Bool→Option S) (i:Int):Option S:=
 aa k (fU k 0 i) fun r1=>
 aa k (ie k r1) fun r2=>
 ret (r2==1)
noncomputable def pK {S:Type} (k:Nat) (i:Int) (ret:Bool→Option S):Option S:=E2 k ret i
def Fa {S:Type} (k:Nat) (ret:Int→Option S) (t:Tm) (i:Int) (a_r:List Cl):Option S:=
 aa k (ik k (af t)) fun r1=>
 ab (!(r1==0)) (
 ret r1) (
 aa k (pK k i) fun r2=>
 ab (!r2) (
  ret 2) (
  aa k (fg k a_r) fun r3=>
  ab (!r3) (
  ret 2) (
  ret 0)))
noncomputable def tX {S:Type} (k:Nat) (t:Tm) (i:Int) (a_r:List Cl) (ret:Int→Option S):Option S:=Fa k ret t i a_r
noncomputable def E7 {S:Type} (k:Nat) (ret:Unit→Option S) (c0:Int) (c1:List Cl):Option S:=
 ret ()
noncomputable def tQ {S:Type} (k:Nat) (c0:Int) (c1:List Cl) (ret:Unit→Option S):Option S:=E7 k ret c0 c1
noncomputable def E8 {S:Type} (k:Nat) (ret:Unit→Option S) (c0:Int) (c1:List Cl):Option S:=
 ret ()
noncomputable def tR {S:Type} (k:Nat) (c0:Int) (c1:List Cl) (ret:Unit→Option S):Option S:=E8 k ret c0 c1
noncomputable def E4 {S:Type} (k:Nat) (ret:Int×List Cl→Option S) (i:Int) (a_r:List Cl):Option S:=
 aa k (tQ k i a_r) fun r1=>
 aa k (tR k i a_r) fun r2=>
 ret (i,a_r)
noncomputable def tP {S:Type} (k:Nat) (i:Int) (a_r:List Cl) (ret:Int×List Cl→Option S):Option S:=E4 k ret i a_r
def FI {S:Type} (k:Nat) (ret:Bool→Option S) (s i:Int):Option S:=
 aa k (jC k i) fun r1=>
 ab (r1) (
 Option.bind (bX (0≤(IntKind.wrap .u64 i))) fun x2=>
 ret ((aN .and .u32 (Int.fdiv s (2^min (Int.toNat (IntKind.wrap .u64 i)) 32)) 1)==1)) (
 ret false)
noncomputable def fh {S:Type} (k:Nat) (s i:Int) (ret:Bool→Option S):Option S:=FI k ret s i
noncomputable def xg {S:Type} (k:Nat) (ret:List Cl→Option S) (f:List Cl):Option S:=
 Option.bind (aR 1099511627776 0 f.length) fun x1=>
 ret f
noncomputable def mL {S:Type} (k:Nat) (f:List Cl) (ret:List Cl→Option S):Option S:=xg k ret f
noncomputable def Fg {S:Type} (k:Nat) (ret:Bool→Option S) (i:Int):Option S:=
 aa k (fU k 0 i) fun r1=>
 aa k (ie k r1) fun r2=>
 ret (r2==1)
noncomputable def pQ {S:Type} (k:Nat) (i:Int) (ret:Bool→Option S):Option S:=Fg k ret i
noncomputable def Ff {S:Type} (k:Nat) (ret:Cl×Bool→Option S) (c:Cl):Option S:=
 aa k (mJ k c) fun r1=>
 ret (c,!r1)
noncomputable def mQ {S:Type} (k:Nat) (c:Cl) (ret:Cl×Bool→Option S):Option S:=Ff k ret c
def oV {S:Type} (k:Nat) (ret:List Cl→Option S) (l:List Cl) (rec0:Int→(List Cl)→Option S) (v12:Int) (out5:List Cl):Option S:=
 ab (decide ((v12:Int)<(l.length:Int))) (
 Option.bind (ar l v12) fun x1=>
 aa k (mQ k x1) fun r2=>
 ab (r2.2) (
  Option.bind (aR 1099511627776 out5.length [r2.1].length) fun x3=>
   rec0 (IntKind.wrap .i64 (v12+1)) (out5++[r2.1])) (
   rec0 (IntKind.wrap .i64 (v12+1)) out5)) (
 ret out5)
noncomputable def kS {S:Type} (k:Nat) (ret:List Cl→Option S) (l:List Cl):Nat→Int→(List Cl)→Option S
 |0=>fun _ _=> .none
 |m+1=>fun v12 out5=>oV k ret l (kS k ret l m) v12 out5
noncomputable def xv {S:Type} (k:Nat) (ret:List Cl→Option S) (J0:Int→(List Cl)→Option S) (l:List Cl):Option S:=
 J0 0 ([]:List Cl)
noncomputable def pS {S:Type} (k:Nat) (l:List Cl) (ret:List Cl→Option S):Option S:=xv k ret (fun v12 out5=>kS k ret l k v12 out5) l
def Fb {S:Type} (k:Nat) (ret:List Cl×Int→Option S) (f:List Cl):Option S:=
 aa k (fg k f) fun r1=>
 ab (!r1) (
 ret (([]:List Cl),2)) (
 aa k (pS k f) fun r2=>
 aa k (eR k r2) fun r3=>
 ret (r3.1,r3.2))
noncomputable def mP {S:Type} (k:Nat) (f:List Cl) (ret:List Cl×Int→Option S):Option S:=Fb k ret f
noncomputable def Fi {S:Type} (k:Nat) (ret:Cl×Bool→Option S) (b c0:Cl):Option S:=
 aa k (ku k c0 b) fun r1=>
 aa k (mQ k r1) fun r2=>
 ret (r2.1,r2.2)
noncomputable def pT {S:Type} (k:Nat) (b c0:Cl) (ret:Cl×Bool→Option S):Option S:=Fi k ret b c0
def oU {S:Type} (k:Nat) (ret:List Cl→Option S) (c0:Cl) (l:List Cl) (rec0:Int→(List Cl)→Option S) (v12:Int) (out5:List Cl):Option S:=
 ab (decide ((v12:Int)<(l.length:Int))) (
 Option.bind (ar l v12) fun x1=>
 aa k (pT k x1 c0) fun r2=>
 ab (r2.2) (
  Option.bind (aR 1099511627776 out5.length [r2.1].length) fun x3=>
   rec0 (IntKind.wrap .i64 (v12+1)) (out5++[r2.1])) (
   rec0 (IntKind.wrap .i64 (v12+1)) out5)) (
 ret out5)
noncomputable def kR {S:Type} (k:Nat) (ret:List Cl→Option S) (c0:Cl) (l:List Cl):Nat→Int→(List Cl)→Option S
 |0=>fun _ _=> .none
 |m+1=>fun v12 out5=>oU k ret c0 l (kR k ret c0 l m) v12 out5
noncomputable def xu {S:Type} (k:Nat) (ret:List Cl→Option S) (J0:Int→(List Cl)→Option S) (l:List Cl) (c0:Cl):Option S:=
 J0 0 ([]:List Cl)
noncomputable def pR {S:Type} (k:Nat) (l:List Cl) (c0:Cl) (ret:List Cl→Option S):Option S:=xu k ret (fun v12 out5=>kR k ret c0 l k v12 out5) l c0
def oW {S:Type} (k:Nat) (ret:List Cl×Int→Option S) (g f:List Cl) (rec0:Int→(List Cl)→Option S) (v11:Int) (out6:List Cl):Option S:=
 ab (decide ((v11:Int)<(f.length:Int))) (
 Option.bind (ar f v11) fun x1=>
 aa k (pR k g x1) fun r2=>
 Option.bind (aR 1099511627776 out6.length r2.length) fun x3=>
  rec0 (IntKind.wrap .i64 (v11+1)) (out6++r2)) (
 aa k (eR k out6) fun r4=>
 ret (r4.1,r4.2))
noncomputable def kT {S:Type} (k:Nat) (ret:List Cl×Int→Option S) (g f:List Cl):Nat→Int→(List Cl)→Option S
 |0=>fun _ _=> .none
 |m+1=>fun v11 out6=>oW k ret g f (kT k ret g f m) v11 out6
noncomputable def xw {S:Type} (k:Nat) (ret:List Cl×Int→Option S) (J0:Int→(List Cl)→Option S) (f g:List Cl):Option S:=
 J0 0 ([]:List Cl)
noncomputable def kx {S:Type} (k:Nat) (f g:List Cl) (ret:List Cl×Int→Option S):Option S:=xw k ret (fun v11 out6=>kT k ret g f k v11 out6) f g
noncomputable def xy {S:Type} (k:Nat) (ret:List Cl→Option S):Option S:=
 ret [(Cl.mk 0 0)]
noncomputable def mS {S:Type} (k:Nat) (ret:List Cl→Option S):Option S:=xy k ret
def o9 {S:Type} (k:Nat) (ret:List Cl×Int→Option S) (r5:List Int) (rec1:Int→(List Cl)→Option S) (v28:Int) (out4':List Cl):Option S:=
 ab (decide ((v28:Int)<(r5.length:Int))) (
 Option.bind (ar r5 v28) fun x6=>
 aa k (fU k 0 x6) fun r7=>
 Option.bind (aR 1099511627776 out4'.length [(Cl.mk r7 0)].length) fun x8=>
  rec1 (IntKind.wrap .i64 (v28+1)) (out4'++[(Cl.mk r7 0)])) (
 aa k (eR k out4') fun r9=>
 ret (r9.1,r9.2))
noncomputable def jO {S:Type} (k:Nat) (ret:List Cl×Int→Option S) (r5:List Int):Nat→Int→(List Cl)→Option S
 |0=>fun _ _=> .none
 |m+1=>fun v28 out4'=>o9 k ret r5 (jO k ret r5 m) v28 out4'
def mh {S:Type} (k:Nat) (ret:List Cl×Int→Option S) (c:Cl) (r1:List Int) (J1:(List Int)→Int→(List Cl)→Option S) (rec0:Int→(List Cl)→Option S) (v13:Int) (out4:List Cl):Option S:=
 ab (decide ((v13:Int)<(r1.length:Int))) (
 Option.bind (ar r1 v13) fun x2=>
 aa k (fU k 0 x2) fun r3=>
 Option.bind (aR 1099511627776 out4.length [(Cl.mk 0 r3)].length) fun x4=>
  rec0 (IntKind.wrap .i64 (v13+1)) (out4++[(Cl.mk 0 r3)])) (
 nQ c.neg fun r5=>
  J1 r5 0 out4)
noncomputable def kY {S:Type} (k:Nat) (ret:List Cl×Int→Option S) (c:Cl) (r1:List Int):Nat→Int→(List Cl)→Option S
 |0=>fun _ _=> .none
 |m+1=>fun v13 out4=>mh k ret c r1 (fun r5 v28 out4'=>jO k ret r5 k v28 out4') (kY k ret c r1 m) v13 out4
noncomputable def xE {S:Type} (k:Nat) (ret:List Cl×Int→Option S) (J0:(List Int)→Int→(List Cl)→Option S) (c:Cl):Option S:=
 nQ c.pos fun r1=>
 J0 r1 0 ([]:List Cl)
noncomputable def p5 {S:Type} (k:Nat) (c:Cl) (ret:List Cl×Int→Option S):Option S:=xE k ret (fun r1 v13 out4=>kY k ret c r1 k v13 out4) c
def o8 {S:Type} (k:Nat) (ret:List Cl×Int→Option S) (x1:Cl) (g f:List Cl) (v13:Int) (rec0:Int→(List Cl)→Option S) (rec1:Int→(List Cl)→Option S) (v19:Int) (out6':List Cl):Option S:=
 ab (decide ((v19:Int)<(g.length:Int))) (
 Option.bind (ar g v19) fun x2=>
 aa k (ku k x1 x2) fun r3=>
 Option.bind (aR 1099511627776 out6'.length [r3].length) fun x4=>
  rec1 (IntKind.wrap .i64 (v19+1)) (out6'++[r3])) (
  rec0 (IntKind.wrap .i64 (v13+1)) out6')
noncomputable def jN {S:Type} (k:Nat) (ret:List Cl×Int→Option S) (rec0:Int→(List Cl)→Option S) (x1:Cl) (g f:List Cl) (v13:Int):Nat→Int→(List Cl)→Option S
 |0=>fun _ _=> .none
 |m+1=>fun v19 out6'=>o8 k ret x1 g f v13 rec0 (jN k ret rec0 x1 g f v13 m) v19 out6'
def mg {S:Type} (k:Nat) (ret:List Cl×Int→Option S) (g f:List Cl) (J1:Cl→Int→Int→(List Cl)→Option S) (rec0:Int→(List Cl)→Option S) (v13:Int) (out6:List Cl):Option S:=
 ab (decide ((v13:Int)<(f.length:Int))) (
 Option.bind (ar f v13) fun x1=>
  J1 x1 v13 0 out6) (
 aa k (eR k out6) fun r5=>
 ret (r5.1,r5.2))
noncomputable def iM {S:Type} (k:Nat) (ret:List Cl×Int→Option S) (g f:List Cl):Nat→Int→(List Cl)→Option S
 |0=>fun _ _=> .none
 |m+1=>fun v13 out6=>mg k ret g f (fun x1 v13 v19 out6'=>jN k ret (iM k ret g f m) x1 g f v13 k v19 out6') (iM k ret g f m) v13 out6
noncomputable def xD {S:Type} (k:Nat) (ret:List Cl×Int→Option S) (J0:Int→(List Cl)→Option S) (f g:List Cl):Option S:=
 J0 0 ([]:List Cl)
noncomputable def gF {S:Type} (k:Nat) (f g:List Cl) (ret:List Cl×Int→Option S):Option S:=xD k ret (fun v13 out6=>iM k ret g f k v13 out6) f g
def Fw {S:Type} (k:Nat) (ret:List Cl×Int→Option S) (a_have:List Cl) (c:Cl):Option S:=
 aa k (p5 k c) fun r1=>
 ab (!(r1.2==0)) (
 ret (([]:List Cl),r1.2)) (
 aa k (gF k a_have r1.1) fun r2=>
 ret (r2.1,r2.2))
noncomputable def pZ {S:Type} (k:Nat) (a_have:List Cl) (c:Cl) (ret:List Cl×Int→Option S):Option S:=Fw k ret a_have c
def oZ {S:Type} (k:Nat) (ret:List Cl×Int→Option S) (l:List Cl) (rec0:(List Cl)→Int→Option S) (v1:List Cl) (v15:Int):Option S:=
 ab (decide ((v15:Int)<(l.length:Int))) (
 Option.bind (ar l v15) fun x1=>
 aa k (pZ k v1 x1) fun r2=>
 ab (!(r2.2==0)) (
  ret (([]:List Cl),r2.2)) (
   rec0 r2.1 (IntKind.wrap .i64 (v15+1)))) (
 ret (v1,0))
noncomputable def kW {S:Type} (k:Nat) (ret:List Cl×Int→Option S) (l:List Cl):Nat→(List Cl)→Int→Option S
 |0=>fun _ _=> .none
 |m+1=>fun v1 v15=>oZ k ret l (kW k ret l m) v1 v15
noncomputable def xA {S:Type} (k:Nat) (ret:List Cl×Int→Option S) (J0:(List Cl)→Int→Option S) (l a_from:List Cl):Option S:=
 J0 a_from 0
noncomputable def t6 {S:Type} (k:Nat) (l a_from:List Cl) (ret:List Cl×Int→Option S):Option S:=xA k ret (fun v1 v15=>kW k ret l k v1 v15) l a_from
noncomputable def Fv {S:Type} (k:Nat) (ret:List Cl×Int→Option S) (f:List Cl):Option S:=
 aa k (mS k) fun r1=>
 aa k (t6 k f r1) fun r2=>
 ret (r2.1,r2.2)
noncomputable def kz {S:Type} (k:Nat) (f:List Cl) (ret:List Cl×Int→Option S):Option S:=Fv k ret f
def Fp {S:Type} (k:Nat) (ret:List Cl×Int→Option S) (f:List Cl):Option S:=
 aa k (kA k [f]) fun r1=>
 ab (!(r1==0)) (
 ret (([]:List Cl),r1)) (
 aa k (kz k f) fun r2=>
 ret (r2.1,r2.2))
noncomputable def pV {S:Type} (k:Nat) (f:List Cl) (ret:List Cl×Int→Option S):Option S:=Fp k ret f
def Fc {S:Type} (k:Nat) (ret:List Cl×Int→Option S) (f:List Cl):Option S:=
 aa k (pV k f) fun r1=>
 ab (!(r1.2==0)) (
 ret (([]:List Cl),r1.2)) (
 aa k (mP k r1.1) fun r2=>
 ret (r2.1,r2.2))
noncomputable def pO {S:Type} (k:Nat) (f:List Cl) (ret:List Cl×Int→Option S):Option S:=Fc k ret f
def oT {S:Type} (k:Nat) (ret:List Cl×Int→Option S) (i:Int) (a_r f:List Cl) (v29:Int) (v8:List Cl) (rec0:Int→(List Cl)→Option S) (g11:List Cl) (v13:Int):Option S:=
 ab (v13==0) (
 aa k (mR k v8 g11) fun r10=>
 ab (!(r10.2==0)) (
  ret (([]:List Cl),r10.2)) (
   rec0 (IntKind.wrap .i64 (v29+1)) r10.1)) (
 ab (!(v13==0)) (
  ret (([]:List Cl),v13)) (
   rec0 (IntKind.wrap .i64 (v29+1)) v8))
noncomputable def kQ {S:Type} (k:Nat) (ret:List Cl×Int→Option S) (rec0:Int→(List Cl)→Option S) (i:Int) (a_r f:List Cl) (v29:Int) (v8:List Cl):Nat→(List Cl)→Int→Option S
 |0=>fun _ _=> .none
 |_+1=>fun g11 v13=>oT k ret i a_r f v29 v8 rec0 g11 v13
def mf {S:Type} (k:Nat) (ret:List Cl×Int→Option S) (i:Int) (a_r f:List Cl) (J1:Int→(List Cl)→(List Cl)→Int→Option S) (rec0:Int→(List Cl)→Option S) (v29:Int) (v8:List Cl):Option S:=
 ab (decide ((v29:Int)<(f.length:Int))) (
 Option.bind (ar f v29) fun x4=>
 aa k (gG k x4.pos i) fun r5=>
 aa k (gG k x4.neg i) fun r6=>
 aa k (fh k x4.pos i) fun r7=>
 ab (r7) (
  aa k (mP k a_r) fun r8=>
  ab (r8.2==0) (
  aa k (kx k [(Cl.mk r5 r6)] r8.1) fun r9=>
    J1 v29 v8 r9.1 r9.2) (
    J1 v29 v8 [(Cl.mk r5 r6)] r8.2)) (
  aa k (fh k x4.neg i) fun r11=>
  ab (r11) (
  aa k (pO k a_r) fun r12=>
  ab (r12.2==0) (
   aa k (kx k [(Cl.mk r5 r6)] r12.1) fun r13=>
     J1 v29 v8 r13.1 r13.2) (
     J1 v29 v8 [(Cl.mk r5 r6)] r12.2)) (
    J1 v29 v8 [(Cl.mk r5 r6)] 0))) (
 ret (v8,0))
noncomputable def iL {S:Type} (k:Nat) (ret:List Cl×Int→Option S) (i:Int) (a_r f:List Cl):Nat→Int→(List Cl)→Option S
 |0=>fun _ _=> .none
 |m+1=>fun v29 v8=>mf k ret i a_r f (fun v29 v8 g11 v13=>kQ k ret (iL k ret i a_r f m) i a_r f v29 v8 k g11 v13) (iL k ret i a_r f m) v29 v8
def xt {S:Type} (k:Nat) (ret:List Cl×Int→Option S) (J0:Int→(List Cl)→Option S) (f:List Cl) (i:Int) (a_r:List Cl):Option S:=
 aa k (h_ k f) fun r1=>
 ab (!r1) (
 ret (([]:List Cl),2)) (
 aa k (pQ k i) fun r2=>
 ab (!r2) (
  ret (([]:List Cl),2)) (
  aa k (fg k a_r) fun r3=>
  ab (!r3) (
  ret (([]:List Cl),2)) (
    J0 0 [])))
noncomputable def pP {S:Type} (k:Nat) (f:List Cl) (i:Int) (a_r:List Cl) (ret:List Cl×Int→Option S):Option S:=xt k ret (fun v29 v8=>iL k ret i a_r f k v29 v8) f i a_r
def E6 {S:Type} (k:Nat) (ret:List Cl×Int→Option S) (f:List Cl) (depth c0:Int) (c1:List Cl):Option S:=
 aa k (ky k f) fun r1=>
 aa k (fh k r1 (IntKind.wrap .i64 (c0+depth))) fun r2=>
 ab (!r2) (
 aa k (mL k f) fun r3=>
 ret (r3,0)) (
 aa k (ic k c1 0 depth) fun r4=>
 ab (!(r4.2==0)) (
  ret (([]:List Cl),r4.2)) (
  aa k (pP k f (IntKind.wrap .i64 (c0+depth)) r4.1) fun r5=>
  ret (r5.1,r5.2)))
noncomputable def mM {S:Type} (k:Nat) (f:List Cl) (depth c0:Int) (c1:List Cl) (ret:List Cl×Int→Option S):Option S:=E6 k ret f depth c0 c1
def Fk {S:Type} (k:Nat) (ret:List Cl×Int→Option S) (i:Int):Option S:=
 aa k (fU k 0 i) fun r1=>
 aa k (ie k r1) fun r2=>
 ab (r2==0) (
 ret (([]:List Cl),2)) (
 aa k (fU k 0 i) fun r3=>
 ret ([(Cl.mk r3 0)],0))
noncomputable def pU {S:Type} (k:Nat) (i:Int) (ret:List Cl×Int→Option S):Option S:=Fk k ret i
noncomputable def Ft {S:Type} (k:Nat) (ret:List Cl×Int→Option S) (f g:List Cl):Option S:=
 Option.bind (aR 1099511627776 ([]:List Cl).length f.length) fun x1=>
 Option.bind (aR 1099511627776 (([]:List Cl)++f).length g.length) fun x2=>
 aa k (eR k ((([]:List Cl)++f)++g)) fun r3=>
 ret (r3.1,r3.2)
noncomputable def jB {S:Type} (k:Nat) (f g:List Cl) (ret:List Cl×Int→Option S):Option S:=Ft k ret f g
def Fr {S:Type} (k:Nat) (ret:List Cl×Int→Option S) (a_have:List Cl) (c:Cl) (c0:Int) (c1:List Cl):Option S:=
 aa k (gG k c.pos c0) fun r1=>
 aa k (gG k c.neg c0) fun r2=>
 aa k (fh k c.pos c0) fun r3=>
 ab (r3) (
 aa k (gF k [(Cl.mk r1 r2)] c1) fun r4=>
 ab (!(r4.2==0)) (
  ret (([]:List Cl),r4.2)) (
  aa k (fh k c.neg c0) fun r5=>
  ab (r5) (
  aa k (kz k c1) fun r6=>
  ab (!(r6.2==0)) (
   ret (([]:List Cl),r6.2)) (
   aa k (gF k r4.1 r6.1) fun r7=>
   ab (!(r7.2==0)) (
   ret (([]:List Cl),r7.2)) (
   aa k (jB k a_have r7.1) fun r8=>
   ret (r8.1,r8.2)))) (
  aa k (jB k a_have r4.1) fun r9=>
  ret (r9.1,r9.2)))) (
 aa k (fh k c.neg c0) fun r10=>
 ab (r10) (
  aa k (kz k c1) fun r11=>
  ab (!(r11.2==0)) (
  ret (([]:List Cl),r11.2)) (
  aa k (gF k [(Cl.mk r1 r2)] r11.1) fun r12=>
  ab (!(r12.2==0)) (
   ret (([]:List Cl),r12.2)) (
   aa k (jB k a_have r12.1) fun r13=>
   ret (r13.1,r13.2)))) (
  aa k (jB k a_have [(Cl.mk r1 r2)]) fun r14=>
  ret (r14.1,r14.2)))
noncomputable def pX {S:Type} (k:Nat) (a_have:List Cl) (c:Cl) (c0:Int) (c1:List Cl) (ret:List Cl×Int→Option S):Option S:=Fr k ret a_have c c0 c1
def oY {S:Type} (k:Nat) (ret:List Cl×Int→Option S) (c0:Int) (c1 l:List Cl) (rec0:(List Cl)→Int→Option S) (v1:List Cl) (v15:Int):Option S:=
 ab (decide ((v15:Int)<(l.length:Int))) (
 Option.bind (ar l v15) fun x1=>
 aa k (pX k v1 x1 c0 c1) fun r2=>
 ab (!(r2.2==0)) (
  ret (([]:List Cl),r2.2)) (
   rec0 r2.1 (IntKind.wrap .i64 (v15+1)))) (
 ret (v1,0))
noncomputable def kV {S:Type} (k:Nat) (ret:List Cl×Int→Option S) (c0:Int) (c1 l:List Cl):Nat→(List Cl)→Int→Option S
 |0=>fun _ _=> .none
 |m+1=>fun v1 v15=>oY k ret c0 c1 l (kV k ret c0 c1 l m) v1 v15
noncomputable def xz {S:Type} (k:Nat) (ret:List Cl×Int→Option S) (J0:(List Cl)→Int→Option S) (l a_from:List Cl) (c0:Int) (c1:List Cl):Option S:=
 J0 a_from 0
noncomputable def tZ {S:Type} (k:Nat) (l a_from:List Cl) (c0:Int) (c1:List Cl) (ret:List Cl×Int→Option S):Option S:=xz k ret (fun v1 v15=>kV k ret c0 c1 l k v1 v15) l a_from c0 c1
def Fq {S:Type} (k:Nat) (ret:List Cl×Int→Option S) (f:List Cl) (i:Int) (a_r:List Cl):Option S:=
 aa k (kA k [f,a_r]) fun r1=>
 ab (!(r1==0)) (
 ret (([]:List Cl),r1)) (
 aa k (pU k i) fun r2=>
 ab (!(r2.2==0)) (
  ret (([]:List Cl),r2.2)) (
  aa k (jA k) fun r3=>
  aa k (tZ k f r3 i a_r) fun r4=>
  ret (r4.1,r4.2)))
noncomputable def pW {S:Type} (k:Nat) (f:List Cl) (i:Int) (a_r:List Cl) (ret:List Cl×Int→Option S):Option S:=Fq k ret f i a_r
def E5 {S:Type} (k:Nat) (ret:List Cl×Int→Option S) (f:List Cl) (depth c0:Int) (c1:List Cl):Option S:=
 aa k (ky k f) fun r1=>
 aa k (fh k r1 (IntKind.wrap .i64 (c0+depth))) fun r2=>
 ab (!r2) (
 aa k (mL k f) fun r3=>
 ret (r3,0)) (
 aa k (ic k c1 0 depth) fun r4=>
 ab (!(r4.2==0)) (
  ret (([]:List Cl),r4.2)) (
  aa k (pW k f (IntKind.wrap .i64 (c0+depth)) r4.1) fun r5=>
  ret (r5.1,r5.2)))
noncomputable def pL {S:Type} (k:Nat) (f:List Cl) (depth c0:Int) (c1:List Cl) (ret:List Cl×Int→Option S):Option S:=E5 k ret f depth c0 c1
def E9 {S:Type} (k:Nat) (ret:List Cl×Int→Option S) (t:Tm) (depth c0:Int) (c1:List Cl):Option S:=
 ab (t.kind==14) (
 aa k (mM k t.r depth c0 c1) fun r1=>
 ret (r1.1,r1.2)) (
 aa k (pL k t.r depth c0 c1) fun r2=>
 ret (r2.1,r2.2))
noncomputable def pM {S:Type} (k:Nat) (t:Tm) (depth c0:Int) (c1:List Cl) (ret:List Cl×Int→Option S):Option S:=E9 k ret t depth c0 c1
noncomputable def xm {S:Type} (k:Nat) (ret:Int→Option S) (i:Int) (c0:Tm):Option S:=
 aa k (ij k c0.kind i) fun r1=>
 ret r1.2
noncomputable def mN {S:Type} (k:Nat) (i:Int) (c0:Tm) (ret:Int→Option S):Option S:=xm k ret i c0
noncomputable def xo {S:Type} (k:Nat) (ret:Int→Option S) (p c0:Int):Option S:=
 ret c0
noncomputable def mO {S:Type} (k:Nat) (p c0:Int) (ret:Int→Option S):Option S:=xo k ret p c0
abbrev b9 (S:Type):=Tm→Int→Int→(List Cl)→(Tm×Int→Option S)→Option S
def oP {S:Type} (hd:b9 S) (k:Nat) (ret:List Tm×Int→Option S) (c0:Int) (c1:List Cl) (c4:Int) (l:List Tm) (depth:Int) (rec0:(List Tm)→Int→Option S) (out10:List Tm) (v17:Int):Option S:=
 ab (decide ((v17:Int)<(l.length:Int))) (
 Option.bind (ar l v17) fun x1=>
 aa k (mO k v17 c4) fun r2=>
 hd (af x1) (IntKind.wrap .i64 (depth+r2)) c0 c1 fun r3=>
 ab (!(r3.2==0)) (
  ret (([]:List Tm),r3.2)) (
  Option.bind (aR 1099511627776 out10.length [(af r3.1)].length) fun x4=>
   rec0 (out10++[(af r3.1)]) (IntKind.wrap .i64 (v17+1)))) (
 ret (out10,0))
noncomputable def iH {S:Type} (hd:b9 S) (k:Nat) (ret:List Tm×Int→Option S) (c0:Int) (c1:List Cl) (c4:Int) (l:List Tm) (depth:Int):Nat→(List Tm)→Int→Option S
 |0=>fun _ _=> .none
 |m+1=>fun out10 v17=>oP hd k ret c0 c1 c4 l depth (iH hd k ret c0 c1 c4 l depth m) out10 v17
noncomputable def xk {S:Type} (hd:b9 S) (k:Nat) (ret:List Tm×Int→Option S) (J0:(List Tm)→Int→Option S) (l:List Tm) (depth c0:Int) (c1:List Cl) (c4:Int):Option S:=
 J0 ([]:List Tm) 0
noncomputable def tV {S:Type} (hd:b9 S) (k:Nat) (l:List Tm) (depth c0:Int) (c1:List Cl) (c4:Int) (ret:List Tm×Int→Option S):Option S:=xk hd k ret (fun out10 v17=>iH hd k ret c0 c1 c4 l depth k out10 v17) l depth c0 c1 c4
def oQ {S:Type} (hd:b9 S) (k:Nat) (ret:List Tm×Int→Option S) (c0:Int) (c1:List Cl) (c4:Tm) (l:List Tm) (depth:Int) (rec0:(List Tm)→Int→Option S) (out10:List Tm) (v17:Int):Option S:=
 ab (decide ((v17:Int)<(l.length:Int))) (
 Option.bind (ar l v17) fun x1=>
 aa k (mN k v17 (af c4)) fun r2=>
 hd (af x1) (IntKind.wrap .i64 (depth+r2)) c0 c1 fun r3=>
 ab (!(r3.2==0)) (
  ret (([]:List Tm),r3.2)) (
  Option.bind (aR 1099511627776 out10.length [(af r3.1)].length) fun x4=>
   rec0 (out10++[(af r3.1)]) (IntKind.wrap .i64 (v17+1)))) (
 ret (out10,0))
noncomputable def iJ {S:Type} (hd:b9 S) (k:Nat) (ret:List Tm×Int→Option S) (c0:Int) (c1:List Cl) (c4:Tm) (l:List Tm) (depth:Int):Nat→(List Tm)→Int→Option S
 |0=>fun _ _=> .none
 |m+1=>fun out10 v17=>oQ hd k ret c0 c1 c4 l depth (iJ hd k ret c0 c1 c4 l depth m) out10 v17
noncomputable def xl {S:Type} (hd:b9 S) (k:Nat) (ret:List Tm×Int→Option S) (J0:(List Tm)→Int→Option S) (l:List Tm) (depth c0:Int) (c1:List Cl) (c4:Tm):Option S:=
 J0 ([]:List Tm) 0
noncomputable def tW {S:Type} (hd:b9 S) (k:Nat) (l:List Tm) (depth c0:Int) (c1:List Cl) (c4:Tm) (ret:List Tm×Int→Option S):Option S:=xl hd k ret (fun out10 v17=>iJ hd k ret c0 c1 c4 l depth k out10 v17) l depth c0 c1 c4
def oR {S:Type} (hd:b9 S) (k:Nat) (ret:Tm×Int→Option S) (c0:Int) (c1:List Cl) (t:Tm) (r1:List Cl×Int) (r2:List Tm×Int) (depth:Int) (rec0:Int→(List (Br Tm))→Int→Option S) (b10_0:Int) (b8_5:List (Br Tm)) (v55:Int):Option S:=
 ab (decide ((v55:Int)<(t.sys.length:Int))) (
 Option.bind (ar t.sys v55) fun x3=>
 aa k (mM k x3.face depth c0 c1) fun r4=>
 ab (!(r4.2==0)) (
  ret ((Tm.mk 0 0 ByteArray.empty [] [] []),r4.2)) (
  ab ((r4.1.length:Int)==0) (
    rec0 b10_0 b8_5 (IntKind.wrap .i64 (v55+1))) (
  aa k (tV hd k x3.kids depth c0 c1 b10_0) fun r5=>
  ab (!(r5.2==0)) (
   ret ((Tm.mk 0 0 ByteArray.empty [] [] []),r5.2)) (
   Option.bind (aR 1099511627776 b8_5.length [(Br.mk r4.1 r5.1)].length) fun x6=>
     rec0 b10_0 (b8_5++[(Br.mk r4.1 r5.1)]) (IntKind.wrap .i64 (v55+1)))))) (
 ret ((Tm.mk t.kind t.n t.name r1.1 r2.1 b8_5),0))
noncomputable def ez {S:Type} (hd:b9 S) (k:Nat) (ret:Tm×Int→Option S) (c0:Int) (c1:List Cl) (t:Tm) (r1:List Cl×Int) (r2:List Tm×Int) (depth:Int):Nat→Int→(List (Br Tm))→Int→Option S
 |0=>fun _ _ _=> .none
 |m+1=>fun b10_0 b8_5 v55=>oR hd k ret c0 c1 t r1 r2 depth (ez hd k ret c0 c1 t r1 r2 depth m) b10_0 b8_5 v55
def xp {S:Type} (hd:b9 S) (k:Nat) (ret:Tm×Int→Option S) (J0:(List Cl×Int)→(List Tm×Int)→Int→(List (Br Tm))→Int→Option S) (t:Tm) (depth c0:Int) (c1:List Cl):Option S:=
 aa k (pM k (af t) depth c0 c1) fun r1=>
 ab (!(r1.2==0)) (
 ret ((Tm.mk 0 0 ByteArray.empty [] [] []),r1.2)) (
 aa k (tW hd k t.kids depth c0 c1 (af t)) fun r2=>
 ab (!(r2.2==0)) (
  ret ((Tm.mk 0 0 ByteArray.empty [] [] []),r2.2)) (
  ab (t.kind==15) (
    J0 r1 r2 1 ([]:List (Br Tm)) 0) (
    J0 r1 r2 0 ([]:List (Br Tm)) 0)))
noncomputable def c8 {S:Type}:Nat→Tm→Int→Int→(List Cl)→(Tm×Int→Option S)→Option S
 |0=>fun _ _ _ _ _=> .none
 |k+1=>fun t depth c0 c1 ret=>xp (c8 k) k ret (fun r1 r2 b10_0 b8_5 v55=>ez (c8 k) k ret c0 c1 t r1 r2 depth k b10_0 b8_5 v55) t depth c0 c1
noncomputable def E3 {S:Type} (k:Nat) (ret:Int→Option S) (i:Int):Option S:=
 ret i
noncomputable def tO {S:Type} (k:Nat) (i:Int) (ret:Int→Option S):Option S:=E3 k ret i
def FH {S:Type} (k:Nat) (ret:Int→Option S) (s i:Int):Option S:=
 aa k (jC k i) fun r1=>
 ab (!r1) (
 ret (aN .and .u32 s 16777215)) (
 aa k (kE k i) fun r2=>
 Option.bind (bX (0≤(IntKind.wrap .u64 (IntKind.wrap .i64 (i+1))))) fun x3=>
 Option.bind (bX (0≤(IntKind.wrap .u64 i))) fun x4=>
 ret (aN .or .u32 (aN .and .u32 (aN .and .u32 s 16777215) r2) (IntKind.wrap .u32 ((Int.fdiv (aN .and .u32 s 16777215) (2^min (Int.toNat (IntKind.wrap .u64 (IntKind.wrap .i64 (i+1)))) 32))*2^min (Int.toNat (IntKind.wrap .u64 i)) 32))))
noncomputable def kB {S:Type} (k:Nat) (s i:Int) (ret:Int→Option S):Option S:=FH k ret s i
def oM {S:Type} (k:Nat) (ret:List Cl×Int→Option S) (c0 depth:Int) (f:List Cl) (rec0:Int→(List Cl)→Option S) (v12:Int) (out7:List Cl):Option S:=
 ab (decide ((v12:Int)<(f.length:Int))) (
 Option.bind (ar f v12) fun x1=>
 aa k (kB k x1.pos (IntKind.wrap .i64 (c0+depth))) fun r2=>
 aa k (kB k x1.neg (IntKind.wrap .i64 (c0+depth))) fun r3=>
 Option.bind (aR 1099511627776 out7.length [(Cl.mk r2 r3)].length) fun x4=>
  rec0 (IntKind.wrap .i64 (v12+1)) (out7++[(Cl.mk r2 r3)])) (
 aa k (eR k out7) fun r5=>
 ret (r5.1,r5.2))
noncomputable def kP {S:Type} (k:Nat) (ret:List Cl×Int→Option S) (c0 depth:Int) (f:List Cl):Nat→Int→(List Cl)→Option S
 |0=>fun _ _=> .none
 |m+1=>fun v12 out7=>oM k ret c0 depth f (kP k ret c0 depth f m) v12 out7
noncomputable def xe {S:Type} (k:Nat) (ret:List Cl×Int→Option S) (J0:Int→(List Cl)→Option S) (f:List Cl) (depth c0:Int):Option S:=
 J0 0 ([]:List Cl)
noncomputable def kw {S:Type} (k:Nat) (f:List Cl) (depth c0:Int) (ret:List Cl×Int→Option S):Option S:=xe k ret (fun v12 out7=>kP k ret c0 depth f k v12 out7) f depth c0
def E_ {S:Type} (k:Nat) (ret:List Cl×Int→Option S) (t:Tm) (depth c0:Int):Option S:=
 ab (t.kind==14) (
 aa k (kw k t.r depth c0) fun r1=>
 ret (r1.1,r1.2)) (
 aa k (kw k t.r depth c0) fun r2=>
 ret (r2.1,r2.2))
noncomputable def pN {S:Type} (k:Nat) (t:Tm) (depth c0:Int) (ret:List Cl×Int→Option S):Option S:=E_ k ret t depth c0
abbrev b_ (S:Type):=Tm→Int→Int→(Tm×Int→Option S)→Option S
def oN {S:Type} (hd:b_ S) (k:Nat) (ret:List Tm×Int→Option S) (c0 c1:Int) (l:List Tm) (depth:Int) (rec0:(List Tm)→Int→Option S) (out10:List Tm) (v17:Int):Option S:=
 ab (decide ((v17:Int)<(l.length:Int))) (
 Option.bind (ar l v17) fun x1=>
 aa k (mO k v17 c1) fun r2=>
 hd (af x1) (IntKind.wrap .i64 (depth+r2)) c0 fun r3=>
 ab (!(r3.2==0)) (
  ret (([]:List Tm),r3.2)) (
  Option.bind (aR 1099511627776 out10.length [(af r3.1)].length) fun x4=>
   rec0 (out10++[(af r3.1)]) (IntKind.wrap .i64 (v17+1)))) (
 ret (out10,0))
noncomputable def iF {S:Type} (hd:b_ S) (k:Nat) (ret:List Tm×Int→Option S) (c0 c1:Int) (l:List Tm) (depth:Int):Nat→(List Tm)→Int→Option S
 |0=>fun _ _=> .none
 |m+1=>fun out10 v17=>oN hd k ret c0 c1 l depth (iF hd k ret c0 c1 l depth m) out10 v17
noncomputable def xh {S:Type} (hd:b_ S) (k:Nat) (ret:List Tm×Int→Option S) (J0:(List Tm)→Int→Option S) (l:List Tm) (depth c0 c1:Int):Option S:=
 J0 ([]:List Tm) 0
noncomputable def tT {S:Type} (hd:b_ S) (k:Nat) (l:List Tm) (depth c0 c1:Int) (ret:List Tm×Int→Option S):Option S:=xh hd k ret (fun out10 v17=>iF hd k ret c0 c1 l depth k out10 v17) l depth c0 c1
def oO {S:Type} (hd:b_ S) (k:Nat) (ret:List Tm×Int→Option S) (c0:Int) (c1:Tm) (l:List Tm) (depth:Int) (rec0:(List Tm)→Int→Option S) (out10:List Tm) (v17:Int):Option S:=
 ab (decide ((v17:Int)<(l.length:Int))) (
 Option.bind (ar l v17) fun x1=>
 aa k (mN k v17 (af c1)) fun r2=>
 hd (af x1) (IntKind.wrap .i64 (depth+r2)) c0 fun r3=>
 ab (!(r3.2==0)) (
  ret (([]:List Tm),r3.2)) (
  Option.bind (aR 1099511627776 out10.length [(af r3.1)].length) fun x4=>
   rec0 (out10++[(af r3.1)]) (IntKind.wrap .i64 (v17+1)))) (
 ret (out10,0))
noncomputable def iG {S:Type} (hd:b_ S) (k:Nat) (ret:List Tm×Int→Option S) (c0:Int) (c1:Tm) (l:List Tm) (depth:Int):Nat→(List Tm)→Int→Option S
 |0=>fun _ _=> .none
 |m+1=>fun out10 v17=>oO hd k ret c0 c1 l depth (iG hd k ret c0 c1 l depth m) out10 v17
noncomputable def xj {S:Type} (hd:b_ S) (k:Nat) (ret:List Tm×Int→Option S) (J0:(List Tm)→Int→Option S) (l:List Tm) (depth c0:Int) (c1:Tm):Option S:=
 J0 ([]:List Tm) 0
noncomputable def tU {S:Type} (hd:b_ S) (k:Nat) (l:List Tm) (depth c0:Int) (c1:Tm) (ret:List Tm×Int→Option S):Option S:=xj hd k ret (fun out10 v17=>iG hd k ret c0 c1 l depth k out10 v17) l depth c0 c1
def oS {S:Type} (hd:b_ S) (k:Nat) (ret:Tm×Int→Option S) (c0:Int) (t:Tm) (r1:List Cl×Int) (r2:List Tm×Int) (depth:Int) (rec0:Int→(List (Br Tm))→Int→Option S) (b10_0:Int) (b8_5:List (Br Tm)) (v55:Int):Option S:=
 ab (decide ((v55:Int)<(t.sys.length:Int))) (
 Option.bind (ar t.sys v55) fun x3=>
 aa k (kw k x3.face depth c0) fun r4=>
 ab (!(r4.2==0)) (
  ret ((Tm.mk 0 0 ByteArray.empty [] [] []),r4.2)) (
  ab ((r4.1.length:Int)==0) (
    rec0 b10_0 b8_5 (IntKind.wrap .i64 (v55+1))) (
  aa k (tT hd k x3.kids depth c0 b10_0) fun r5=>
  ab (!(r5.2==0)) (
   ret ((Tm.mk 0 0 ByteArray.empty [] [] []),r5.2)) (
   Option.bind (aR 1099511627776 b8_5.length [(Br.mk r4.1 r5.1)].length) fun x6=>
     rec0 b10_0 (b8_5++[(Br.mk r4.1 r5.1)]) (IntKind.wrap .i64 (v55+1)))))) (
 ret ((Tm.mk t.kind t.n t.name r1.1 r2.1 b8_5),0))
noncomputable def eA {S:Type} (hd:b_ S) (k:Nat) (ret:Tm×Int→Option S) (c0:Int) (t:Tm) (r1:List Cl×Int) (r2:List Tm×Int) (depth:Int):Nat→Int→(List (Br Tm))→Int→Option S
 |0=>fun _ _ _=> .none
 |m+1=>fun b10_0 b8_5 v55=>oS hd k ret c0 t r1 r2 depth (eA hd k ret c0 t r1 r2 depth m) b10_0 b8_5 v55
def xq {S:Type} (hd:b_ S) (k:Nat) (ret:Tm×Int→Option S) (J0:(List Cl×Int)→(List Tm×Int)→Int→(List (Br Tm))→Int→Option S) (t:Tm) (depth c0:Int):Option S:=
 aa k (pN k (af t) depth c0) fun r1=>
 ab (!(r1.2==0)) (
 ret ((Tm.mk 0 0 ByteArray.empty [] [] []),r1.2)) (
 aa k (tU hd k t.kids depth c0 (af t)) fun r2=>
 ab (!(r2.2==0)) (
  ret ((Tm.mk 0 0 ByteArray.empty [] [] []),r2.2)) (
  ab (t.kind==15) (
    J0 r1 r2 1 ([]:List (Br Tm)) 0) (
    J0 r1 r2 0 ([]:List (Br Tm)) 0)))
noncomputable def cV {S:Type}:Nat→Tm→Int→Int→(Tm×Int→Option S)→Option S
 |0=>fun _ _ _ _=> .none
 |k+1=>fun t depth c0 ret=>xq (cV k) k ret (fun r1 r2 b10_0 b8_5 v55=>eA (cV k) k ret c0 t r1 r2 depth k b10_0 b8_5 v55) t depth c0
def E1 {S:Type} (k:Nat) (ret:Tm×Int→Option S) (t:Tm) (i:Int) (a_r:List Cl):Option S:=
 aa k (tX k (af t) i a_r) fun r1=>
 ab (!(r1==0)) (
 ret ((Tm.mk 0 0 ByteArray.empty [] [] []),r1)) (
 aa k (ic k a_r i 1) fun r2=>
 ab (!(r2.2==0)) (
  ret ((Tm.mk 0 0 ByteArray.empty [] [] []),r2.2)) (
  aa k (tP k i r2.1) fun r3=>
  c8 k (af t) 0 r3.1 r3.2 fun r4=>
  ab (!(r4.2==0)) (
  ret ((Tm.mk 0 0 ByteArray.empty [] [] []),r4.2)) (
  aa k (tO k i) fun r5=>
  cV k (af r4.1) 0 r5 fun r6=>
  ret ((af r6.1),r6.2))))
noncomputable def jz {S:Type} (k:Nat) (t:Tm) (i:Int) (a_r:List Cl) (ret:Tm×Int→Option S):Option S:=E1 k ret t i a_r
def w9 {S:Type} (k:Nat) (ret:Tm×Int→Option S) (line:Tm) (a_r:List Cl) (c0:Int):Option S:=
 aa k (cS k c0) fun r1=>
 ab (!r1) (
 ret ((Tm.mk 0 0 ByteArray.empty [] [] []),c0)) (
 aa k (p9 k (af line) 1 2) fun r2=>
 aa k (ff k r2.2 c0) fun r3=>
 aa k (cS k r3) fun r4=>
 ab (!r4) (
  ret ((Tm.mk 0 0 ByteArray.empty [] [] []),r3)) (
  aa k (jz k (af r2.1) 0 a_r) fun r5=>
  aa k (ff k r5.2 r3) fun r6=>
  ret ((af r5.1),r6)))
noncomputable def h9 {S:Type} (k:Nat) (line:Tm) (a_r:List Cl) (c0:Int) (ret:Tm×Int→Option S):Option S:=w9 k ret line a_r c0
noncomputable def FD {S:Type} (k:Nat) (ret:Pan Int Tm→Option S) (c0 c1:Int) (c2:Tm):Option S:=
 cL k c1 0 (af c2) 0 0 fun r2=>Pan.elim r2 (fun r2=>
 cL k 0 c0 (af r2) 0 0 fun r5=>Pan.elim r5 (fun r5=>
  ret (.ok (af r5))) (fun e6=>
  ret (.pan e6))) (fun e3=>
 ret (.pan e3))
noncomputable def p8 {S:Type} (k:Nat) (c0 c1:Int) (c2:Tm) (ret:Pan Int Tm→Option S):Option S:=FD k ret c0 c1 c2
def pe {S:Type} (k:Nat) (ret:Tm×Int→Option S) (c0 c1:Int) (c2:Tm) (numbers:List Int) (rec0:Int→Option S) (v19:Int):Option S:=
 ab (decide ((v19:Int)<(numbers.length:Int))) (
 Option.bind (ar numbers v19) fun x2=>
 ab (decide ((x2:Int)<0)) (
  ret ((Tm.mk 0 0 ByteArray.empty [] [] []),2)) (
   rec0 (IntKind.wrap .i64 (v19+1)))) (
 aa k (p8 k c0 c1 (af c2)) fun r4=>Pan.elim r4 (fun r4=>
  ret ((af r4),0)) (fun e5=>
  ret ((Tm.mk 0 0 ByteArray.empty [] [] []),e5)))
noncomputable def jR {S:Type} (k:Nat) (ret:Tm×Int→Option S) (c0 c1:Int) (c2:Tm) (numbers:List Int):Nat→Int→Option S
 |0=>fun _=> .none
 |m+1=>fun v19=>pe k ret c0 c1 c2 numbers (jR k ret c0 c1 c2 numbers m) v19
def xJ {S:Type} (k:Nat) (ret:Tm×Int→Option S) (J0:Int→Option S) (t:Tm) (numbers:List Int) (c0 c1:Int) (c2:Tm):Option S:=
 aa k (ik k (af t)) fun r1=>
 ab (!(r1==0)) (
 ret ((Tm.mk 0 0 ByteArray.empty [] [] []),r1)) (
  J0 0)
noncomputable def uc {S:Type} (k:Nat) (t:Tm) (numbers:List Int) (c0 c1:Int) (c2:Tm) (ret:Tm×Int→Option S):Option S:=xJ k ret (fun v19=>jR k ret c0 c1 c2 numbers k v19) t numbers c0 c1 c2
noncomputable def FC {S:Type} (k:Nat) (ret:Tm×Int→Option S) (t:Tm) (vars dims:Int):Option S:=
 aa k (uc k (af t) [vars,dims,IntKind.wrap .i64 (1000000-vars)] dims vars (af t)) fun r1=>
 ret ((af r1.1),r1.2)
noncomputable def p7 {S:Type} (k:Nat) (t:Tm) (vars dims:Int) (ret:Tm×Int→Option S):Option S:=FC k ret t vars dims
def xa {S:Type} (k:Nat) (ret:Tm×Int→Option S) (t:Tm) (vars dims c0:Int):Option S:=
 aa k (cS k c0) fun r1=>
 ab (!r1) (
 ret ((Tm.mk 0 0 ByteArray.empty [] [] []),c0)) (
 aa k (p7 k (af t) vars dims) fun r2=>
 aa k (ff k r2.2 c0) fun r3=>
 ret ((af r2.1),r3))
noncomputable def ej {S:Type} (k:Nat) (t:Tm) (vars dims c0:Int) (ret:Tm×Int→Option S):Option S:=xa k ret t vars dims c0
noncomputable def xb {S:Type} (k:Nat) (ret:Int×Int×ByteArray×List Tm→Option S) (kind:Int) (kids:List Tm):Option S:=
 ret (kind,0,ByteArray.empty,kids)
noncomputable def cK {S:Type} (k:Nat) (kind:Int) (kids:List Tm) (ret:Int×Int×ByteArray×List Tm→Option S):Option S:=xb k ret kind kids
def w_ {S:Type} (k:Nat) (ret:Tm×Int×Int→Option S) (t:Tm) (c0:Int):Option S:=
 aa k (cS k c0) fun r1=>
 ab (r1) (
 aa k (ik k (af t)) fun r2=>
 aa k (ff k r2 c0) fun r3=>
 aa k (cS k r3) fun r4=>
 ab (!r4) (
  ret ((Tm.mk 0 0 ByteArray.empty [] [] []),r3,r3)) (
  ret ((af t),0,r3))) (
 aa k (cS k c0) fun r5=>
 ab (!r5) (
  ret ((Tm.mk 0 0 ByteArray.empty [] [] []),c0,c0)) (
  ret ((af t),0,c0)))
noncomputable def ei {S:Type} (k:Nat) (t:Tm) (c0:Int) (ret:Tm×Int×Int→Option S):Option S:=w_ k ret t c0
def SF {S:Type} (k:Nat) (ret:Tm×Int→Option S) (line:Tm) (phi:List Cl) (a:Tm) (a_end:Cl) (a_r:List Cl):Option S:=
 aa k (kr k [(af line),(af a)]) fun r1=>
 aa k (h_ k phi) fun r2=>
 ab (!r2) (
 aa k (ff k 2 r1) fun r3=>
 aa k (jx k phi r3) fun r4=>
 aa k (tN k r4.1 [a_end] r4.2) fun r5=>
 aa k (h9 k (af line) a_r r5.2) fun r6=>
 aa k (ej k (af a) 0 1 r6.2) fun r7=>
 aa k (cK k 14 [(af r6.1),(af r7.1)]) fun r8=>
 aa k (ei k (Tm.mk r8.1 r8.2.1 r8.2.2.1 r5.1 r8.2.2.2 []) r7.2) fun r9=>
 ret ((af r9.1),r9.2.1)) (
 aa k (jx k phi r1) fun r10=>
 aa k (tN k r10.1 [a_end] r10.2) fun r11=>
 aa k (h9 k (af line) a_r r11.2) fun r12=>
 aa k (ej k (af a) 0 1 r12.2) fun r13=>
 aa k (cK k 14 [(af r12.1),(af r13.1)]) fun r14=>
 aa k (ei k (Tm.mk r14.1 r14.2.1 r14.2.2.1 r11.1 r14.2.2.2 []) r13.2) fun r15=>
 ret ((af r15.1),r15.2.1))
noncomputable def y7 {S:Type} (k:Nat) (line:Tm) (phi:List Cl) (a:Tm) (a_end:Cl) (a_r:List Cl) (ret:Tm×Int→Option S):Option S:=SF k ret line phi a a_end a_r
noncomputable def SE {S:Type} (k:Nat) (ret:Tm×Int→Option S) (line:Tm) (phi:List Cl) (a:Tm):Option S:=
 aa k (y7 k (af line) phi (af a) (Cl.mk 0 1) [(Cl.mk 3 0)]) fun r1=>
 ret ((af r1.1),r1.2)
noncomputable def y6 {S:Type} (k:Nat) (line:Tm) (phi:List Cl) (a:Tm) (ret:Tm×Int→Option S):Option S:=SE k ret line phi a
noncomputable def ES {S:Type} (k:Nat) (ret:Int×Int×ByteArray×List Tm×List (Br Tm)→Option S) (sys:List (Br Tm)):Option S:=
 aa k (cK k 3 ([]:List Tm)) fun r1=>
 aa k (cK k 3 ([]:List Tm)) fun r2=>
 ret (15,0,ByteArray.empty,[(Tm.mk r1.1 r1.2.1 r1.2.2.1 [] r1.2.2.2 []),(Tm.mk r2.1 r2.2.1 r2.2.2.1 [] r2.2.2.2 [])],sys)
noncomputable def pF {S:Type} (k:Nat) (sys:List (Br Tm)) (ret:Int×Int×ByteArray×List Tm×List (Br Tm)→Option S):Option S:=ES k ret sys
def km {S:Type} (k:Nat) (ret:Tm×Int→Option S) (a:Tm) (r5:Int×Int×ByteArray×List Tm) (sys:List (Br Tm)) (rec0:Int→(List (Br Tm))→Int→Option S) (b19000_0:Int) (b9_5:List (Br Tm)) (v29:Int):Option S:=
 ab (decide ((v29:Int)<(sys.length:Int))) (
 Option.bind (ar sys v29) fun x6=>
 aa k (cS k b19000_0) fun r7=>
 ab (!r7) (
  aa k (ej k (af a) 0 2 b19000_0) fun r8=>
  Option.bind (aR 1099511627776 b9_5.length [(Br.mk [(Cl.mk 0 1)] [(af r8.1)])].length) fun x9=>
  aa k (ei k (Tm.mk r5.1 r5.2.1 r5.2.2.1 [] r5.2.2.2 (b9_5++[(Br.mk [(Cl.mk 0 1)] [(af r8.1)])])) r8.2) fun r10=>
  ret ((af r10.1),r10.2.1)) (
  aa k (jx k x6.face b19000_0) fun r11=>
  Option.bind (ar x6.kids 0) fun x12=>
  aa k (h9 k (af x12) [(Cl.mk 3 0)] r11.2) fun r13=>
  Option.bind (aR 1099511627776 b9_5.length [(Br.mk r11.1 [(af r13.1)])].length) fun x14=>
   rec0 r13.2 (b9_5++[(Br.mk r11.1 [(af r13.1)])]) (IntKind.wrap .i64 (v29+1)))) (
 aa k (ej k (af a) 0 2 b19000_0) fun r15=>
 Option.bind (aR 1099511627776 b9_5.length [(Br.mk [(Cl.mk 0 1)] [(af r15.1)])].length) fun x16=>
 aa k (ei k (Tm.mk r5.1 r5.2.1 r5.2.2.1 [] r5.2.2.2 (b9_5++[(Br.mk [(Cl.mk 0 1)] [(af r15.1)])])) r15.2) fun r17=>
 ret ((af r17.1),r17.2.1))
noncomputable def eT {S:Type} (k:Nat) (ret:Tm×Int→Option S) (a:Tm) (r5:Int×Int×ByteArray×List Tm) (sys:List (Br Tm)):Nat→Int→(List (Br Tm))→Int→Option S
 |0=>fun _ _ _=> .none
 |m+1=>fun b19000_0 b9_5 v29=>km k ret a r5 sys (eT k ret a r5 sys m) b19000_0 b9_5 v29
noncomputable def w7 {S:Type} (k:Nat) (ret:Tm×Int→Option S) (J0:(Int×Int×ByteArray×List Tm)→Int→(List (Br Tm))→Int→Option S) (t a:Tm) (sys:List (Br Tm)):Option S:=
 aa k (pF k sys) fun r1=>
 aa k (kr k [(af t),(af a),(Tm.mk r1.1 r1.2.1 r1.2.2.1 [] r1.2.2.2.1 r1.2.2.2.2)]) fun r2=>
 aa k (ej k (af t) 0 1 r2) fun r3=>
 aa k (ej k (af a) 0 1 r3.2) fun r4=>
 aa k (cK k 15 [(af r3.1),(af r4.1)]) fun r5=>
 J0 r5 r4.2 ([]:List (Br Tm)) 0
noncomputable def mI {S:Type} (k:Nat) (t a:Tm) (sys:List (Br Tm)) (ret:Tm×Int→Option S):Option S:=w7 k ret (fun r5 b19000_0 b9_5 v29=>eT k ret a r5 sys k b19000_0 b9_5 v29) t a sys
def pg {S:Type} (k:Nat) (ret:Bool→Option S) (a b:List Cl) (rec0:Int→Option S) (i5:Int):Option S:=
 ab (decide ((i5:Int)<(a.length:Int))) (
 Option.bind (ar a i5) fun x1=>
 Option.bind (ar b i5) fun x2=>
 ab (!((x1.pos==x2.pos)&&((x1.neg==x2.neg)&&true))) (
  ret false) (
   rec0 (IntKind.wrap .i64 (i5+1)))) (
 ret true)
noncomputable def lb {S:Type} (k:Nat) (ret:Bool→Option S) (a b:List Cl):Nat→Int→Option S
 |0=>fun _=> .none
 |m+1=>fun i5=>pg k ret a b (lb k ret a b m) i5
def xM {S:Type} (k:Nat) (ret:Bool→Option S) (J0:Int→Option S) (a b:List Cl):Option S:=
 ab (!((a.length:Int)==(b.length:Int))) (
 ret false) (
  J0 0)
noncomputable def jD {S:Type} (k:Nat) (a b:List Cl) (ret:Bool→Option S):Option S:=xM k ret (fun i5=>lb k ret a b k i5) a b
noncomputable def SH {S:Type} (k:Nat) (ret:Int×Int×ByteArray→Option S) (a_n:Int):Option S:=
 ret (1,a_n,ByteArray.empty)
noncomputable def jy {S:Type} (k:Nat) (a_n:Int) (ret:Int×Int×ByteArray→Option S):Option S:=SH k ret a_n
noncomputable def SD {S:Type} (k:Nat) (ret:Int×Int×ByteArray×List Cl×List Tm→Option S) (a_r:List Cl):Option S:=
 aa k (jy k 0) fun r1=>
 aa k (cK k 10 [(Tm.mk r1.1 r1.2.1 r1.2.2 [] [] [])]) fun r2=>
 aa k (jy k 1) fun r3=>
 aa k (jy k 0) fun r4=>
 aa k (cK k 9 [(Tm.mk r4.1 r4.2.1 r4.2.2 [] [] [])]) fun r5=>
 ret (13,0,ByteArray.empty,a_r,[(Tm.mk r2.1 r2.2.1 r2.2.2.1 [] r2.2.2.2 []),(Tm.mk r3.1 r3.2.1 r3.2.2 [] [] []),(Tm.mk r5.1 r5.2.1 r5.2.2.1 [] r5.2.2.2 [])])
noncomputable def tM {S:Type} (k:Nat) (a_r:List Cl) (ret:Int×Int×ByteArray×List Cl×List Tm→Option S):Option S:=SD k ret a_r
noncomputable def SC {S:Type} (k:Nat) (ret:Int×Int×ByteArray×List Tm→Option S):Option S:=
 aa k (jy k 0) fun r1=>
 aa k (jy k 0) fun r2=>
 aa k (cK k 12 [(Tm.mk r2.1 r2.2.1 r2.2.2 [] [] [])]) fun r3=>
 aa k (cK k 8 [(Tm.mk r1.1 r1.2.1 r1.2.2 [] [] []),(Tm.mk r3.1 r3.2.1 r3.2.2.1 [] r3.2.2.2 [])]) fun r4=>
 aa k (tM k [(Cl.mk 1 0)]) fun r5=>
 aa k (tM k [(Cl.mk 3 0)]) fun r6=>
 aa k (cK k 12 [(Tm.mk r6.1 r6.2.1 r6.2.2.1 r6.2.2.2.1 r6.2.2.2.2 [])]) fun r7=>
 aa k (cK k 8 [(Tm.mk r5.1 r5.2.1 r5.2.2.1 r5.2.2.2.1 r5.2.2.2.2 []),(Tm.mk r7.1 r7.2.1 r7.2.2.1 [] r7.2.2.2 [])]) fun r8=>
 aa k (cK k 12 [(Tm.mk r8.1 r8.2.1 r8.2.2.1 [] r8.2.2.2 [])]) fun r9=>
 aa k (cK k 5 [(Tm.mk r9.1 r9.2.1 r9.2.2.1 [] r9.2.2.2 [])]) fun r10=>
 aa k (jy k 0) fun r11=>
 aa k (cK k 5 [(Tm.mk r11.1 r11.2.1 r11.2.2 [] [] [])]) fun r12=>
 aa k (cK k 8 [(Tm.mk r4.1 r4.2.1 r4.2.2.1 [] r4.2.2.2 []),(Tm.mk r10.1 r10.2.1 r10.2.2.1 [] r10.2.2.2 [])]) fun r13=>
 aa k (cK k 5 [(Tm.mk r13.1 r13.2.1 r13.2.2.1 [] r13.2.2.2 [])]) fun r14=>
 aa k (cK k 8 [(Tm.mk r12.1 r12.2.1 r12.2.2.1 [] r12.2.2.2 []),(Tm.mk r14.1 r14.2.1 r14.2.2.1 [] r14.2.2.2 [])]) fun r15=>
 ret (r15.1,r15.2.1,r15.2.2.1,r15.2.2.2)
noncomputable def yZ {S:Type} (k:Nat) (ret:Int×Int×ByteArray×List Tm→Option S):Option S:=SC k ret
def SL {S:Type} (k:Nat) (ret:Int→Option S) (t:Tm) (vars dims:Int):Option S:=
 ab (decide ((vars:Int)<0)) (
 ret 2) (
 ab (decide ((dims:Int)<0)) (
  ret 2) (
  ab (decide ((dims:Int)>24)) (
  ret 2) (
  aa k (mZ k (af t)) fun r1=>
  ab (!(r1==0)) (
   ret r1) (
   eo k (af t) vars dims true fun r2=>
   ab (!r2) (
   ret 100) (
   ret 0)))))
noncomputable def za {S:Type} (k:Nat) (t:Tm) (vars dims:Int) (ret:Int→Option S):Option S:=SL k ret t vars dims
def SJ {S:Type} (k:Nat) (ret:Bool→Option S):Option S:=
 aa k (y6 k (Tm.mk 3 0 ByteArray.empty [] [] []) ([]:List Cl) (Tm.mk 20 0 ByteArray.empty [] [] [])) fun r1=>
 aa k (mI k (Tm.mk 19 0 ByteArray.empty [] [] []) (Tm.mk 20 0 ByteArray.empty [] [] []) ([]:List (Br Tm))) fun r2=>
 ab (r1.2==0) (
 ab (r1.1.kind==14) (
  aa k (jD k r1.1.r [(Cl.mk 0 1)]) fun r3=>
  ab (r3) (
  ab ((r1.1.kids.length:Int)==2) (
   Option.bind (ar r1.1.kids 0) fun x4=>
   ab (x4.kind==3) (
   ab (r2.2==0) (
    ab (r2.1.kind==15) (
    ab ((r2.1.sys.length:Int)==1) (
     Option.bind (ar r2.1.sys 0) fun x5=>
     aa k (jD k x5.face [(Cl.mk 0 1)]) fun r6=>
     ab (r6) (
     aa k (yZ k) fun r7=>
     aa k (za k (Tm.mk r7.1 r7.2.1 r7.2.2.1 [] r7.2.2.2 []) 0 0) fun r8=>
     ret (r8==0)) (
     ret false)) (
     ret false)) (
    ret false)) (
    ret false)) (
   ret false)) (
   ret false)) (
  ret false)) (
  ret false)) (
 ret false)
noncomputable def p6 {S:Type} (k:Nat) (ret:Bool→Option S):Option S:=SJ k ret
abbrev Is (S:Type):=Tm→(Int→Option S)→Option S
abbrev It (S:Type):=Tm→(Int→Option S)→Option S
abbrev Iq (S:Type):=Tm→Int→Int→Bool→(Bool→Option S)→Option S
end
end Go.Proofs.YtapmagaejigpnaaGreatDoor
namespace Go.Proofs.YtapmagaejigpnaaGreatDoor
open Go PI
set_option linter.unusedVariables false
set_option maxRecDepth 100000
noncomputable section
abbrev Iu (S:Type):=Tm→Int→Int→Int→Int→(Tm→Option S)→Option S
abbrev Iv (S:Type):=Tm→Int→(List Cl)→Int→Bool→(Tm→Option S)→Option S
abbrev dG (S:Type):=Tm→Tm→(Bool→Option S)→Option S
def pj {S:Type} (hd:dG S) (k:Nat) (ret:Bool→Option S) (a b:List Tm) (rec0:Int→Option S) (i5:Int):Option S:=
 ab (decide ((i5:Int)<(a.length:Int))) (
 Option.bind (ar a i5) fun x1=>
 Option.bind (ar b i5) fun x2=>
 hd (af x1) (af x2) fun r3=>
 ab (!r3) (
  ret false) (
   rec0 (IntKind.wrap .i64 (i5+1)))) (
 ret true)
noncomputable def lc {S:Type} (hd:dG S) (k:Nat) (ret:Bool→Option S) (a b:List Tm):Nat→Int→Option S
 |0=>fun _=> .none
 |m+1=>fun i5=>pj hd k ret a b (lc hd k ret a b m) i5
def xP {S:Type} (hd:dG S) (k:Nat) (ret:Bool→Option S) (J0:Int→Option S) (a b:List Tm):Option S:=
 ab (!((a.length:Int)==(b.length:Int))) (
 ret false) (
  J0 0)
noncomputable def mV {S:Type} (hd:dG S) (k:Nat) (a b:List Tm) (ret:Bool→Option S):Option S:=xP hd k ret (fun i5=>lc hd k ret a b k i5) a b
def pi {S:Type} (hd:dG S) (k:Nat) (ret:Bool→Option S) (a b:Tm) (rec0:Int→Option S) (i5:Int):Option S:=
 ab (decide ((i5:Int)<(a.sys.length:Int))) (
 Option.bind (ar a.sys i5) fun x3=>
 Option.bind (ar b.sys i5) fun x4=>
 aa k (jD k x3.face x4.face) fun r5=>
 ab (!r5) (
  ret false) (
  Option.bind (ar a.sys i5) fun x6=>
  Option.bind (ar b.sys i5) fun x7=>
  aa k (mV hd k x6.kids x7.kids) fun r8=>
  ab (!r8) (
  ret false) (
    rec0 (IntKind.wrap .i64 (i5+1))))) (
 ret true)
noncomputable def jT {S:Type} (hd:dG S) (k:Nat) (ret:Bool→Option S) (a b:Tm):Nat→Int→Option S
 |0=>fun _=> .none
 |m+1=>fun i5=>pi hd k ret a b (jT hd k ret a b m) i5
def xO {S:Type} (hd:dG S) (k:Nat) (ret:Bool→Option S) (J0:Int→Option S) (a b:Tm):Option S:=
 ab (!(a.kind==b.kind)) (
 ret false) (
 ab (!(a.n==b.n)) (
  ret false) (
  ab (!(a.name==b.name)) (
  ret false) (
  aa k (jD k a.r b.r) fun r1=>
  ab (!r1) (
   ret false) (
   aa k (mV hd k a.kids b.kids) fun r2=>
   ab (!r2) (
   ret false) (
   ab (!((a.sys.length:Int)==(b.sys.length:Int))) (
    ret false) (
       J0 0))))))
noncomputable def dw {S:Type}:Nat→Tm→Tm→(Bool→Option S)→Option S
 |0=>fun _ _ _=> .none
 |k+1=>fun a b ret=>xO (dw k) k ret (fun i5=>jT (dw k) k ret a b k i5) a b
abbrev Ir (S:Type):=Tm→(Tm→Option S)→Option S
abbrev yp (S:Type):=Tm→(Tm→Option S)→Option S
def pb {S:Type} (k:Nat) (ret:Bool→Option S) (sys:List (Br Tm)) (rec0:Int→Option S) (v7:Int):Option S:=
 ab (decide ((v7:Int)<(sys.length:Int))) (
 Option.bind (ar sys v7) fun x1=>
 ab ((x1.face.length:Int)==0) (
  ret true) (
   rec0 (IntKind.wrap .i64 (v7+1)))) (
 ret false)
noncomputable def k_ {S:Type} (k:Nat) (ret:Bool→Option S) (sys:List (Br Tm)):Nat→Int→Option S
 |0=>fun _=> .none
 |m+1=>fun v7=>pb k ret sys (k_ k ret sys m) v7
noncomputable def FA {S:Type} (k:Nat) (ret:Bool→Option S) (J0:Int→Option S) (sys:List (Br Tm)):Option S:=
 J0 0
noncomputable def t8 {S:Type} (k:Nat) (sys:List (Br Tm)) (ret:Bool→Option S):Option S:=FA k ret (fun v7=>k_ k ret sys k v7) sys
abbrev e_ (S:Type):=Tm→(Bool→Option S)→Option S
def pc {S:Type} (hd:e_ S) (k:Nat) (ret:Bool→Option S) (t:Tm) (v26:Int) (x4:(Br Tm)) (rec1:Int→Option S) (rec2:Int→Option S) (v33:Int):Option S:=
 ab (decide ((v33:Int)<(x4.kids.length:Int))) (
 Option.bind (ar x4.kids v33) fun x5=>
 hd (af x5) fun r6=>
 ab (!r6) (
  ret false) (
   rec2 (IntKind.wrap .i64 (v33+1)))) (
  rec1 (IntKind.wrap .i64 (v26+1)))
noncomputable def jP {S:Type} (hd:e_ S) (k:Nat) (ret:Bool→Option S) (rec1:Int→Option S) (t:Tm) (v26:Int) (x4:(Br Tm)):Nat→Int→Option S
 |0=>fun _=> .none
 |m+1=>fun v33=>pc hd k ret t v26 x4 rec1 (jP hd k ret rec1 t v26 x4 m) v33
def mj {S:Type} (hd:e_ S) (k:Nat) (ret:Bool→Option S) (t:Tm) (J2:Int→(Br Tm)→Int→Option S) (rec1:Int→Option S) (v26:Int):Option S:=
 ab (decide ((v26:Int)<(t.sys.length:Int))) (
 Option.bind (ar t.sys v26) fun x4=>
  J2 v26 x4 0) (
 ret true)
noncomputable def gQ {S:Type} (hd:e_ S) (k:Nat) (ret:Bool→Option S) (t:Tm):Nat→Int→Option S
 |0=>fun _=> .none
 |m+1=>fun v26=>mj hd k ret t (fun v26 x4 v33=>jP hd k ret (gQ hd k ret t m) t v26 x4 k v33) (gQ hd k ret t m) v26
def mi {S:Type} (hd:e_ S) (k:Nat) (ret:Bool→Option S) (t:Tm) (J1:Int→Option S) (rec0:Int→Option S) (v15:Int):Option S:=
 ab (decide ((v15:Int)<(t.kids.length:Int))) (
 Option.bind (ar t.kids v15) fun x2=>
 hd (af x2) fun r3=>
 ab (!r3) (
  ret false) (
   rec0 (IntKind.wrap .i64 (v15+1)))) (
  J1 0)
noncomputable def la {S:Type} (hd:e_ S) (k:Nat) (ret:Bool→Option S) (t:Tm):Nat→Int→Option S
 |0=>fun _=> .none
 |m+1=>fun v15=>mi hd k ret t (fun v26=>gQ hd k ret t k v26) (la hd k ret t m) v15
def xG {S:Type} (hd:e_ S) (k:Nat) (ret:Bool→Option S) (J0:Int→Option S) (t:Tm):Option S:=
 aa k (t8 k t.sys) fun r1=>
 ab (r1) (
 ret false) (
  J0 0)
noncomputable def dT {S:Type}:Nat→Tm→(Bool→Option S)→Option S
 |0=>fun _ _=> .none
 |k+1=>fun t ret=>xG (dT k) k ret (fun v15=>la (dT k) k ret t k v15) t
noncomputable def FB {S:Type} (k:Nat) (ret:Int×Int×ByteArray×List Tm×List (Br Tm)→Option S) (sys:List (Br Tm)):Option S:=
 ret (15,0,ByteArray.empty,[(Tm.mk 3 0 ByteArray.empty [] [] []),(Tm.mk 3 0 ByteArray.empty [] [] [])],sys)
noncomputable def t_ {S:Type} (k:Nat) (sys:List (Br Tm)) (ret:Int×Int×ByteArray×List Tm×List (Br Tm)→Option S):Option S:=FB k ret sys
def FR {S:Type} (k:Nat) (ret:Bool→Option S) (b:(Br Tm)):Option S:=
 ab ((b.face.length:Int)==1) (
 Option.bind (ar b.face 0) fun x1=>
 ret ((x1.pos==0)&&((x1.neg==0)&&true))) (
 ret false)
noncomputable def qe {S:Type} (k:Nat) (b:(Br Tm)) (ret:Bool→Option S):Option S:=FR k ret b
def tx {S:Type} (k:Nat) (ret:Int→Option S) (s:List (Br Tm)) (rec0:Int→Option S) (v8:Int):Option S:=
 ab (decide ((v8:Int)<(s.length:Int))) (
 Option.bind (ar s v8) fun x1=>
 aa k (qe k x1) fun r2=>
 ab (r2) (
  ret v8) (
   rec0 (IntKind.wrap .i64 (v8+1)))) (
 ret (-1))
noncomputable def nk {S:Type} (k:Nat) (ret:Int→Option S) (s:List (Br Tm)):Nat→Int→Option S
 |0=>fun _=> .none
 |m+1=>fun v8=>tx k ret s (nk k ret s m) v8
noncomputable def xU {S:Type} (k:Nat) (ret:Int→Option S) (J0:Int→Option S) (s:List (Br Tm)):Option S:=
 J0 0
noncomputable def ui {S:Type} (k:Nat) (s:List (Br Tm)) (ret:Int→Option S):Option S:=xU k ret (fun v8=>nk k ret s k v8) s
noncomputable def FQ {S:Type} (k:Nat) (ret:Int→Option S) (l:List (Br Tm)):Option S:=
 aa k (ui k l) fun r1=>
 ret r1
noncomputable def qc {S:Type} (k:Nat) (l:List (Br Tm)) (ret:Int→Option S):Option S:=FQ k ret l
def Fy {S:Type} (k:Nat) (ret:Bool→Option S) (t a:Tm) (sys:List (Br Tm)):Option S:=
 aa k (p6 k) fun r1=>
 ab (!r1) (
 ret false) (
 aa k (mT k (af t) (af a) sys) fun r2=>
 ab (r2) (
  ret true) (
  dT k (af t) fun r3=>
  ab (!r3) (
  ret true) (
  dT k (af a) fun r4=>
  ab (!r4) (
   ret true) (
   aa k (t_ k sys) fun r5=>
   dT k (Tm.mk r5.1 r5.2.1 r5.2.2.1 [] r5.2.2.2.1 r5.2.2.2.2) fun r6=>
   ab (!r6) (
   ret true) (
   aa k (mI k (af t) (af a) sys) fun r7=>
   ab (!(r7.2==0)) (
    ret true) (
    aa k (mS k) fun r8=>
    aa k (jz k (af r7.1) 0 r8) fun r9=>
    aa k (jA k) fun r10=>
    aa k (jz k (af r7.1) 0 r10) fun r11=>
    ab (r9.2==0) (
    dw k (af r9.1) (Tm.mk 15 0 ByteArray.empty [] [(af t),(af a)] sys) fun r12=>
    ab (r12) (
     ab (r11.2==0) (
     aa k (qc k r11.1.sys) fun r13=>
     ab (decide ((r13:Int)≥0)) (
      ab ((r11.1.kids.length:Int)==2) (
      Option.bind (ar r11.1.kids 1) fun x14=>
      dw k (af x14) (af a) fun r15=>
      ret r15) (
      ret false)) (
      ret false)) (
     ret false)) (
     ret false)) (
    ret false)))))))
noncomputable def t7 {S:Type} (k:Nat) (t a:Tm) (sys:List (Br Tm)) (ret:Bool→Option S):Option S:=Fy k ret t a sys
end
end Go.Proofs.YtapmagaejigpnaaGreatDoor
