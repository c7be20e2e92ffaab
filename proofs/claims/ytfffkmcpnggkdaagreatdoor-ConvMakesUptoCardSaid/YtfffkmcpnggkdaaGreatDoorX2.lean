/- Part 2 of a proof; sources: wip/. -/
import Derived.Test.YtfffkmcpnggkdaaGreatDoorX1
import Derived.Test.YtfffkmcpnggkdaaGreatDoorProg
import Derived.KernelRfl
open Bool renaming and_eq_true→pX,not_false→sQ,not_true→uX
open ByteArray renaming empty→oW
open Go.IntKind renaming wrap→oa
open Int renaming toNat→zm,toNat_natCast→EJ
open List renaming all_eq_true→xm,append_nil→xG,length_append→H4,length_cons→ue,mem_append→xO,mem_cons→xB,mem_map→wD,nil_append→zg,range→BT
open Nat renaming beq→qy,le_trans→bu
open Option renaming bind→nW,bind_some→p9
set_option linter.unusedVariables false
set_option linter.unusedSimpArgs false
namespace Go.Proofs.YtfffkmcpnggkdaaGreatDoor
set_option maxRecDepth 100000
open Go PI
section
noncomputable section
noncomputable def hG:ET->TypeId
 | .C=>69
 | .T=>27
 | .B=>62
 | .I=>3
 | .F=>23
 | .D=>51
 | .G=>50
 | .V=>183
 | .P=>45
noncomputable def pQ:ET->Nat
 | .C=>2
 | .T=>6
 | .B=>2
 | .I=>1
 | .F=>1
 | .D=>7
 | .G=>7
 | .V=>2
 | .P=>12
noncomputable def zQ:ET->Nat
 | .C=>8
 | .T=>104
 | .B=>48
 | .I=>8
 | .F=>24
 | .D=>120
 | .G=>120
 | .V=>32
 | .P=>208
noncomputable def zY (e:ET):Value:=((Tryz.prog.info? (hG e)).bind (·.zero)).getD undef
noncomputable def Ep (e:ET):Bool:=match Tryz.prog.info? (hG e) with
 |some i=>i.zero.isSome&&(qy i.size (pQ e)&&qy i.bytes (zQ e))&&qy (zY e).cells.size (pQ e)
 | .none=>false
theorem KA (e:ET):Ep e=true:=by cases e<;>kernel_rfl
theorem T7: ∀t r,wy t=some r->I9 Tryz.prog hG t r=true:=by
 intro t r h
 unfold wy at h
 split at h<;>first|(injection h with h;subst h;kernel_rfl)|cases h
theorem aeb: ∀t r e,wy t=some r->r.keys=some e->e= .C:=by
 intro t r e h hk
 unfold wy at h
 split at h<;>first|(injection h with h;subst h;cases hk;done)|(injection h with h;subst h;injection hk with hk;exact hk.symm)|cases h
theorem akU: ∀e cs y,T3 e cs=some y->cs.length=pQ e/\cs.all PV.isCell=true/\ ∀ (k:Nat) p,cs[k]? =some p-> ∃q,(Ah e y)[k]? =some q/\p.less q:=by
 have hC: ∀ {p:PU} {l},oO p=some l-> ∃o,p= .sl (U:=UU) ET.C l o:=by
  intro p l h;unfold oO at h;split at h<;>first|(injection h with h;subst h;exact ⟨_,rfl⟩)|cases h
 have hT: ∀ {p:PU} {l},sn p=some l-> ∃o,p= .sl (U:=UU) ET.T l o:=by
  intro p l h;unfold sn at h;split at h<;>first|(injection h with h;subst h;exact ⟨_,rfl⟩)|cases h
 have hB: ∀ {p:PU} {l},wJ p=some l-> ∃o,p= .sl (U:=UU) ET.B l o:=by
  intro p l h;unfold wJ at h;split at h<;>first|(injection h with h;subst h;exact ⟨_,rfl⟩)|cases h
 intro e cs y h
 cases e
 ·have h:I4 cs=some y:=h
  unfold I4 at h
  split at h
  case h_2=>cases h
  injection h with h;subst h
  refine ⟨rfl,rfl,fun k p hp=> ?_⟩
  match k,hp with
  |0,hp=>exact ⟨_,rfl,.inl (Option.some.inj hp).symm⟩
  |1,hp=>exact ⟨_,rfl,.inl (Option.some.inj hp).symm⟩
  |k+2,hp=>simp at hp
 ·have h:I7 cs=some y:=h
  unfold I7 at h
  split at h
  case h_2=>cases h
  split at h
  case h_2=>cases h
  rename_i h1 h2 x
  injection h with h;subst h
  obtain ⟨z,rfl⟩:=hC h1;obtain ⟨A,rfl⟩:=hT h2;obtain ⟨E,rfl⟩:=hB x
  refine ⟨rfl,rfl,fun k p hp=> ?_⟩
  match k,hp with
  |0,hp=>exact ⟨_,rfl,.inl (Option.some.inj hp).symm⟩
  |1,hp=>exact ⟨_,rfl,.inl (Option.some.inj hp).symm⟩
  |2,hp=>exact ⟨_,rfl,.inl (Option.some.inj hp).symm⟩
  |3,hp=>exact ⟨_,rfl,.inr ⟨_,_,_,(Option.some.inj hp).symm,rfl⟩⟩
  |4,hp=>exact ⟨_,rfl,.inr ⟨_,_,_,(Option.some.inj hp).symm,rfl⟩⟩
  |5,hp=>exact ⟨_,rfl,.inr ⟨_,_,_,(Option.some.inj hp).symm,rfl⟩⟩
  |k+6,hp=>simp at hp
 ·have h:I3 cs=some y:=h
  unfold I3 at h
  split at h
  case h_2=>cases h
  split at h
  case h_2=>cases h
  rename_i h1 h2
  injection h with h;subst h
  obtain ⟨z,rfl⟩:=hC h1;obtain ⟨A,rfl⟩:=hT h2
  refine ⟨rfl,rfl,fun k p hp=> ?_⟩
  match k,hp with
  |0,hp=>exact ⟨_,rfl,.inr ⟨_,_,_,(Option.some.inj hp).symm,rfl⟩⟩
  |1,hp=>exact ⟨_,rfl,.inr ⟨_,_,_,(Option.some.inj hp).symm,rfl⟩⟩
  |k+2,hp=>simp at hp
 ·have h:I6 cs=some y:=h
  unfold I6 at h
  split at h
  case h_2=>cases h
  injection h with h;subst h
  refine ⟨rfl,rfl,fun k p hp=> ?_⟩
  match k,hp with
  |0,hp=>exact ⟨_,rfl,.inl (Option.some.inj hp).symm⟩
  |k+1,hp=>simp at hp
 ·have h:I5 cs=some y:=h
  unfold I5 at h
  split at h
  case h_2=>cases h
  obtain ⟨z,rfl⟩:=hC h
  refine ⟨rfl,rfl,fun k p hp=> ?_⟩
  match k,hp with
  |0,hp=>exact ⟨_,rfl,.inr ⟨_,_,_,(Option.some.inj hp).symm,rfl⟩⟩
  |k+1,hp=>simp at hp
 ·have h:rS cs=some y:=h
  unfold rS at h
  split at h
  case h_2=>cases h
  split at h
  case h_2=>cases h
  rename_i h1 h2 x
  injection h with h;subst h
  obtain ⟨z,rfl⟩:=hC h1;obtain ⟨A,rfl⟩:=hT h2;obtain ⟨E,rfl⟩:=hB x
  refine ⟨rfl,rfl,fun k p hp=> ?_⟩
  match k,hp with
  |0,hp=>exact ⟨_,rfl,.inl (Option.some.inj hp).symm⟩
  |1,hp=>exact ⟨_,rfl,.inl (Option.some.inj hp).symm⟩
  |2,hp=>exact ⟨_,rfl,.inl (Option.some.inj hp).symm⟩
  |3,hp=>exact ⟨_,rfl,.inl (Option.some.inj hp).symm⟩
  |4,hp=>exact ⟨_,rfl,.inr ⟨_,_,_,(Option.some.inj hp).symm,rfl⟩⟩
  |5,hp=>exact ⟨_,rfl,.inr ⟨_,_,_,(Option.some.inj hp).symm,rfl⟩⟩
  |6,hp=>exact ⟨_,rfl,.inr ⟨_,_,_,(Option.some.inj hp).symm,rfl⟩⟩
  |k+7,hp=>simp at hp
 ·have h:rS cs=some y:=h
  unfold rS at h
  split at h
  case h_2=>cases h
  split at h
  case h_2=>cases h
  rename_i h1 h2 x
  injection h with h;subst h
  obtain ⟨z,rfl⟩:=hC h1;obtain ⟨A,rfl⟩:=hT h2;obtain ⟨E,rfl⟩:=hB x
  refine ⟨rfl,rfl,fun k p hp=> ?_⟩
  match k,hp with
  |0,hp=>exact ⟨_,rfl,.inl (Option.some.inj hp).symm⟩
  |1,hp=>exact ⟨_,rfl,.inl (Option.some.inj hp).symm⟩
  |2,hp=>exact ⟨_,rfl,.inl (Option.some.inj hp).symm⟩
  |3,hp=>exact ⟨_,rfl,.inl (Option.some.inj hp).symm⟩
  |4,hp=>exact ⟨_,rfl,.inr ⟨_,_,_,(Option.some.inj hp).symm,rfl⟩⟩
  |5,hp=>exact ⟨_,rfl,.inr ⟨_,_,_,(Option.some.inj hp).symm,rfl⟩⟩
  |6,hp=>exact ⟨_,rfl,.inr ⟨_,_,_,(Option.some.inj hp).symm,rfl⟩⟩
  |k+7,hp=>simp at hp
 ·have h:aNu cs=some y:=h
  unfold aNu at h
  split at h
  case h_2=>cases h
  split at h
  case h_2=>cases h
  rename_i h1
  injection h with h;subst h
  obtain ⟨z,rfl⟩:=hC h1
  refine ⟨rfl,rfl,fun k p hp=> ?_⟩
  match k,hp with
  |0,hp=>exact ⟨_,rfl,.inl (Option.some.inj hp).symm⟩
  |1,hp=>exact ⟨_,rfl,.inr ⟨_,_,_,(Option.some.inj hp).symm,rfl⟩⟩
  |k+2,hp=>simp at hp
 ·have h:aPt cs=some y:=h
  unfold aPt at h
  split at h
  case h_2=>cases h
  split at h
  case h_2=>cases h
  rename_i h1 h2 x F I J
  injection h with h;subst h
  obtain ⟨z,rfl⟩:=hC h1;obtain ⟨A,rfl⟩:=hT h2;obtain ⟨E,rfl⟩:=hB x
  obtain ⟨L,rfl⟩:=hC F;obtain ⟨M,rfl⟩:=hT I;obtain ⟨O,rfl⟩:=hB J
  refine ⟨rfl,rfl,fun k p hp=> ?_⟩
  match k,hp with
  |0,hp=>exact ⟨_,rfl,.inl (Option.some.inj hp).symm⟩
  |1,hp=>exact ⟨_,rfl,.inl (Option.some.inj hp).symm⟩
  |2,hp=>exact ⟨_,rfl,.inl (Option.some.inj hp).symm⟩
  |3,hp=>exact ⟨_,rfl,.inr ⟨_,_,_,(Option.some.inj hp).symm,rfl⟩⟩
  |4,hp=>exact ⟨_,rfl,.inr ⟨_,_,_,(Option.some.inj hp).symm,rfl⟩⟩
  |5,hp=>exact ⟨_,rfl,.inr ⟨_,_,_,(Option.some.inj hp).symm,rfl⟩⟩
  |6,hp=>exact ⟨_,rfl,.inl (Option.some.inj hp).symm⟩
  |7,hp=>exact ⟨_,rfl,.inl (Option.some.inj hp).symm⟩
  |8,hp=>exact ⟨_,rfl,.inl (Option.some.inj hp).symm⟩
  |9,hp=>exact ⟨_,rfl,.inr ⟨_,_,_,(Option.some.inj hp).symm,rfl⟩⟩
  |10,hp=>exact ⟨_,rfl,.inr ⟨_,_,_,(Option.some.inj hp).symm,rfl⟩⟩
  |11,hp=>exact ⟨_,rfl,.inr ⟨_,_,_,(Option.some.inj hp).symm,rfl⟩⟩
  |k+12,hp=>simp at hp
theorem acB (e:ET): ∃i,Tryz.prog.info? (hG e)=some i/\i.zero=some (zY e)/\i.size=pQ e/\i.bytes=zQ e:=by
 have h:=KA e
 unfold Ep at h
 split at h
 ·rename_i i q
  simp only [pX] at h
  obtain ⟨⟨h1,h2,x⟩,B⟩:=h
  refine ⟨i,q, ?_,by simpa using h2,by simpa using x⟩
  unfold zY
  rw [q]
  obtain ⟨z,A⟩:=Option.isSome_iff_exists.1 h1
  simp [A]
 ·cases h
noncomputable def LL (o:Obj):qx VV Tryz.prog where
 jY:=[(0,o)]
 bU:=hG
 aR:=pQ
 kU:=zQ
 iA:=zY
 kI:=acB
 nx:=fun e=>by
  have h:=KA e
  unfold Ep at h
  split at h
  ·simp only [pX] at h
   exact by simpa using h.2
  ·cases h
 nL:=fun e=>by cases e<;>decide
 nI:=fun e n h=>by
  cases e
  case P=>have h':n<=274877906944:=h;simp only [zQ,maxLen];omega
  all_goals (have h':n<=1099511627776:=h;simp only [zQ,maxLen];omega)
 len:=fun e x=>by cases e<;>rfl
 small:=fun e=>by cases e<;>decide
 kK:=fun e x=>by cases e<;>rfl
 kE:=akU
 ty:=fun t r h=>T6 (T7 t r h)
 keyT:=fun t r e h hk=>by
  have he:=aeb t r e h hk
  subst he
  obtain ⟨fs,h1,h2,_,q,z⟩:=(T6 (T7 69 _ rfl)).mw rfl
  exact ⟨⟨fs,h1,h2,q,z⟩,fun x y=>⟨_,by simp only [VV,Ah,PV.eqvI];rfl⟩⟩
theorem Ax:Tryz.prog.follows .mixedOrders=true:=by kernel_rfl
theorem sw {A B:Out UU->Prop} (h: ∃out,A out/\B out): ∃out,B out/\A out:=by obtain ⟨o,a,b⟩:=h;exact ⟨o,b,a⟩
theorem ZM {S:Type} {b:Bool} {x y:Option S} {v:S} (h:(bif b then x else y)=some v):x=some v\/y=some v:=by
 cases b
 ·exact .inr h
 ·exact .inl h
end
end
section
def BD (s:Int):Prop:=0<=s/\s<4294967296
theorem BD.nat {s:Int} (h:BD s): ∃n:Nat,n<4294967296/\s=n:=⟨s.toNat,by have:=h.1;have:=h.2;omega,by have:=h.1;omega⟩
theorem vy {n:Nat} (h:n<4294967296):(BitVec.ofInt 32 (n:Int)).toNat=n:=by
 grind
theorem ld (n:Nat) (h:n<4294967296):oa .u32 (n:Int)=n:=by
 grind [oa,IntKind.bits,IntKind.signed]
theorem iR (n:Nat) (h:n<18446744073709551616):oa .u64 (n:Int)=n:=by
 grind [oa,IntKind.bits,IntKind.signed]
theorem alX {n:Int} (h1: -9223372036854775808<=n) (h2:n<9223372036854775808):oa .i64 n=n:=by
 grind [oa,IntKind.bits,IntKind.signed]
theorem b7 {a b n:Nat} (h:a<2^n):a&&&b<2^n:=Nat.lt_of_le_of_lt Nat.and_le_left h
theorem lj {a b:Nat} (ha:a<4294967296) (hb:b<4294967296):bj .and .u32 (a:Int) (b:Int)=((a&&&b:Nat):Int):=by
 have h1:=vy ha;have h2:=vy hb
 simp only [bj]
 show oa .u32 (((BitVec.ofInt 32 (a:Int))&&&(BitVec.ofInt 32 (b:Int))).toNat:Int)=_
 rw [BitVec.toNat_and,h1,h2]
 exact ld _ (b7 (n:=32) ha)
theorem wK {a b:Nat} (ha:a<4294967296) (hb:b<4294967296):bj .or .u32 (a:Int) (b:Int)=((a|||b:Nat):Int):=by
 have h1:=vy ha;have h2:=vy hb
 simp only [bj]
 show oa .u32 (((BitVec.ofInt 32 (a:Int))|||(BitVec.ofInt 32 (b:Int))).toNat:Int)=_
 rw [BitVec.toNat_or,h1,h2]
 exact ld _ (Nat.or_lt_two_pow (n:=32) ha hb)
def dL (a b:Nat):Nat:=a^^^(a&&&b)
theorem mm (a b i:Nat):(dL a b).testBit i=(a.testBit i&& !b.testBit i):=by
 grind [dL]
theorem vq {a b n:Nat} (h:a<2^n):dL a b<2^n:=Nat.xor_lt_two_pow h (b7 h)
theorem C_ {a b:Nat} (ha:a<4294967296) (hb:b<4294967296):bj .andNot .u32 (a:Int) (b:Int)=((dL a b:Nat):Int):=by
 have h1:=vy ha;have h2:=vy hb
 simp only [bj]
 show oa .u32 (((BitVec.ofInt 32 (a:Int))&&& ~~~(BitVec.ofInt 32 (b:Int))).toNat:Int)=_
 have e:((BitVec.ofInt 32 (a:Int))&&& ~~~(BitVec.ofInt 32 (b:Int))).toNat=dL a b:=by
  apply Nat.eq_of_testBit_eq
  intro i
  rw [mm,BitVec.toNat_and,Nat.testBit_and,h1]
  by_cases q:i<32
  ·grind
  ·have:a.testBit i=false:=Nat.testBit_lt_two_pow (Nat.lt_of_lt_of_le ha (by exact Nat.pow_le_pow_right (n:=2) (by decide) (show 32<=i by omega)))
   grind
 rw [e]
 exact ld _ (vq (n:=32) ha)
theorem aY {α:Type} (p:Prop) [Decidable p] (x y:α):ab (decide p) x y=if p then x else y:=by
 grind [ae,n3]
theorem cH {α:Type} (c:Bool) (x y:α):ab c x y=if c=true then x else y:=by
 grind [n3,ae]
abbrev Fu (k:Nat):Prop:=4294967296<=k
theorem ag {R S:Type} {k:Nat} (h:Fu k) (f:(R->OS S)->OS S) (g:R->OS S):aa k f g=f g:=ZV (by omega) f g
theorem J5 {S:Type} {n m:Nat} (h:n+m<=1099511627776) (f:Unit->OS S):nW (aw 1099511627776 n m) f=f ():=by
 grind [aw]
theorem qF {α:Type} {l p r:List α} {x:α} (h:l=p++x::r) (hl:l.length<4611686018427387904):
  decide ((p.length:Int)<(l.length:Int))=true/\af l (p.length:Int)=some x/\oa .i64 ((p.length:Int)+1)=((p++[x]).length:Int)/\l=(p++[x])++r:=by
 subst h
 rw [H4,ue] at hl
 refine ⟨decide_eq_true (by grind), ?_, ?_,by simp⟩
 all_goals grind [af,oa,IntKind.bits]
theorem xu {α:Type} {l p:List α} (h:l=p++[]):decide ((p.length:Int)<(l.length:Int))=false:=by
 grind
theorem pw {n m:Nat} (h:n<m): ∃q,m=q+1/\n<=q:=⟨m-1,by omega,by omega⟩
theorem fN {S:Type} (p:Prop) [Decidable p] (h:p) (f:Unit->OS S):nW (bR p) f=f ():=by simp [bR,h]
theorem pU {α:Type} (l:List α) (i:Nat):af l (i:Int)=l[i]? :=by rfl
end
section
noncomputable section
variable {S:Type}
def F6 (k:Nat) (kind:Int) (kids:LT) (I:Int×Int×BA×LT->OS S):OS S:=I (kind,0,oW,kids)
def gI (k:Nat) (kind bV:Int) (I:Int×Int->OS S):OS S:=ab (kind==4) (ab (bV==1) (I (1,0)) (I (0,0))) (ab (kind==7) (ab (bV==1) (I (1,0)) (I (0,0))) (ab (kind==5) (ab (bV==0) (I (1,0)) (I (0,0))) (ab (kind==22) (ab (bV==0) (I (1,0)) (I (0,0))) (ab (kind==27) (ab (bV==0) (I (1,0)) (I (0,0))) (ab (kind==11) (ab (bV==0) (I (0,1)) (I (0,0))) (ab (kind==12) (ab (bV==0) (I (0,1)) (I (0,0))) (ab (kind==14) (ab (bV==0) (I (0,1)) (I (0,0))) (I (0,0)))))))))
abbrev du (S:Type):=Tm->Int->(Bool->OS S)->OS S
def uk (hd:du S) (k:Nat) (Dd:Tm) (p q c0:Int) (I:Bool->OS S):OS S:=hd (ac Dd) (oa .i64 (c0-1)) fun r1=>I r1
def yi (hd:du S) (k:Nat) (I:Bool->OS S) (c0:Int) (t:Tm) (ox:Int) (x4:(Br Tm)) (q:Int) (x:Int->Int->OS S) (z:Int->OS S) (qC:Int):OS S:=ab (decide ((qC:Int)<(x4.c.length:Int))) (nW (af x4.c qC) fun x5=>aa k (uk hd k (ac x5) 0 q c0) fun A=>ab (!A) (I false) (z (oa .i64 (qC+1)))) (x (oa .i64 (ox+1)) q)
def SL (hd:du S) (k:Nat) (I:Bool->OS S) (x:Int->Int->OS S) (c0:Int) (t:Tm) (ox:Int) (x4:(Br Tm)) (q:Int):Nat->Int->OS S
 |0=>fun _=> .none
 |m+1=>fun qC=>yi hd k I c0 t ox x4 q x (SL hd k I x c0 t ox x4 q m) qC
def tp (hd:du S) (k:Nat) (I:Bool->OS S) (c0:Int) (t:Tm) (J2:Int->(Br Tm)->Int->Int->OS S) (x:Int->Int->OS S) (ox q:Int):OS S:=ab (decide ((ox:Int)<(t.s.length:Int))) (nW (af t.s ox) fun x4=>J2 ox x4 q 0) (I true)
def jp (hd:du S) (k:Nat) (I:Bool->OS S) (c0:Int) (t:Tm):Nat->Int->Int->OS S
 |0=>fun _ _=> .none
 |m+1=>fun ox q=>tp hd k I c0 t (fun ox x4 q qC=>SL hd k I (jp hd k I c0 t m) c0 t ox x4 q k qC) (jp hd k I c0 t m) ox q
def tn (hd:du S) (k:Nat) (I:Bool->OS S) (c0:Int) (t:Tm) (J1:Int->Int->OS S) (q:Int->OS S) (ov:Int):OS S:=ab (decide ((ov:Int)<(t.c.length:Int))) (nW (af t.c ov) fun x1=>aa k (gI k t.k ov) fun x=>aa k (uk hd k (ac x1) x.1 x.2 c0) fun z=>ab (!z) (I false) (q (oa .i64 (ov+1)))) (ab (t.k==15) (J1 0 1) (J1 0 0))
def qS (hd:du S) (k:Nat) (I:Bool->OS S) (c0:Int) (t:Tm):Nat->Int->OS S
 |0=>fun _=> .none
 |m+1=>fun ov=>tn hd k I c0 t (fun ox q=>jp hd k I c0 t k ox q) (qS hd k I c0 t m) ov
def IV (hd:du S) (k:Nat) (I:Bool->OS S) (J0:Int->OS S) (t:Tm) (c0:Int):OS S:=J0 0
def DX (hd:du S) (k:Nat) (t:Tm) (c0:Int) (I:Bool->OS S):OS S:=IV hd k I (fun ov=>qS hd k I c0 t k ov) t c0
def TV (hd:du S) (k:Nat) (I:Bool->OS S) (t:Tm) (left:Int):OS S:=ab (decide ((left:Int)>0)) (aa k (DX hd k (ac t) left) fun r1=>I r1) (I false)
def jf:Nat->Tm->Int->(Bool->OS S)->OS S
 |0=>fun _ _ _=> .none
 |k+1=>fun t left I=>TV (jf k) k I t left
abbrev HN (S:Type):=Tm->Int->(Bool×Int->OS S)->OS S
def pB (hd:HN S) (k:Nat) (t:Tm) (c0:Int) (I:Bool×Int->OS S):OS S:=ab (decide ((oa .i64 (c0-1):Int)>=0)) (hd (ac t) (oa .i64 (c0-1)) fun r1=>I (r1.1,r1.2)) (I (false,oa .i64 (c0-1)))
def ul (hd:HN S) (k:Nat) (Dd:Tm) (p q c1:Int) (I:Bool×Int->OS S):OS S:=aa k (pB hd k (ac Dd) c1) fun r1=>I (r1.1,r1.2)
def yg (hd:HN S) (k:Nat) (I:Bool×Int->OS S) (t:Tm) (ox:Int) (x4:(Br Tm)) (q:Int) (x:Int->Int->Int->OS S) (z:Int->Int->OS S) (tc qC:Int):OS S:=ab (decide ((qC:Int)<(x4.c.length:Int))) (nW (af x4.c qC) fun x5=>aa k (ul hd k (ac x5) 0 q tc) fun A=>ab (!A.1) (I (false,A.2)) (z A.2 (oa .i64 (qC+1)))) (x tc (oa .i64 (ox+1)) q)
def kL (hd:HN S) (k:Nat) (I:Bool×Int->OS S) (x:Int->Int->Int->OS S) (t:Tm) (ox:Int) (x4:(Br Tm)) (q:Int):Nat->Int->Int->OS S
 |0=>fun _ _=> .none
 |m+1=>fun tc qC=>yg hd k I t ox x4 q x (kL hd k I x t ox x4 q m) tc qC
def tj (hd:HN S) (k:Nat) (I:Bool×Int->OS S) (t:Tm) (J2:Int->(Br Tm)->Int->Int->Int->OS S) (x:Int->Int->Int->OS S) (sX ox q:Int):OS S:=ab (decide ((ox:Int)<(t.s.length:Int))) (nW (af t.s ox) fun x4=>J2 ox x4 q sX 0) (I (true,sX))
def Ms (hd:HN S) (k:Nat) (I:Bool×Int->OS S) (t:Tm):Nat->Int->Int->Int->OS S
 |0=>fun _ _ _=> .none
 |m+1=>fun sX ox q=>tj hd k I t (fun ox x4 q tc qC=>kL hd k I (Ms hd k I t m) t ox x4 q k tc qC) (Ms hd k I t m) sX ox q
def ti (hd:HN S) (k:Nat) (I:Bool×Int->OS S) (t:Tm) (J1:Int->Int->Int->OS S) (q:Int->Int->OS S) (arm ov:Int):OS S:=ab (decide ((ov:Int)<(t.c.length:Int))) (nW (af t.c ov) fun x1=>aa k (gI k t.k ov) fun z=>aa k (ul hd k (ac x1) z.1 z.2 arm) fun x=>ab (!x.1) (I (false,x.2)) (q x.2 (oa .i64 (ov+1)))) (ab (t.k==15) (J1 arm 0 1) (J1 arm 0 0))
def nY (hd:HN S) (k:Nat) (I:Bool×Int->OS S) (t:Tm):Nat->Int->Int->OS S
 |0=>fun _ _=> .none
 |m+1=>fun arm ov=>ti hd k I t (fun sX ox q=>Ms hd k I t k sX ox q) (nY hd k I t m) arm ov
def IT (hd:HN S) (k:Nat) (I:Bool×Int->OS S) (J0:Int->Int->OS S) (t:Tm) (c1:Int):OS S:=J0 c1 0
def K3:Nat->Tm->Int->(Bool×Int->OS S)->OS S
 |0=>fun _ _ _=> .none
 |k+1=>fun t c1 I=>IT (K3 k) k I (fun arm ov=>nY (K3 k) k I t k arm ov) t c1
def zE (k:Nat) (t:Tm) (ot:Int) (I:Bool->OS S):OS S:=aa k (pB (K3 k) k (ac t) ot) fun r1=>I r1.1
def zD (k:Nat) (t:Tm) (I:Int->OS S):OS S:=jf k (ac t) 200 fun r1=>ab (!r1) (I 62) (aa k (zE k (ac t) 20000) fun q=>ab (!q) (I 221) (I 0))
def zA (k:Nat) (kind:Int) (I:Int->OS S):OS S:=ab (kind==1) (I 0) (ab (kind==2) (I 0) (ab (kind==3) (I 0) (ab (kind==19) (I 0) (ab (kind==20) (I 0) (ab (kind==24) (I 0) (ab (kind==25) (I 0) (ab (kind==21) (I 0) (ab (kind==5) (I 1) (ab (kind==9) (I 1) (ab (kind==10) (I 1) (ab (kind==23) (I 1) (ab (kind==12) (I 1) (ab (kind==16) (I 1) (ab (kind==17) (I 1) (ab (kind==18) (I 1) (ab (kind==26) (I 1) (ab (kind==4) (I 2) (ab (kind==7) (I 2) (ab (kind==6) (I 2) (ab (kind==8) (I 2) (ab (kind==14) (I 2) (ab (kind==15) (I 2) (ab (kind==28) (I 2) (ab (kind==11) (I 3) (ab (kind==13) (I 3) (ab (kind==22) (I 4) (ab (kind==27) (I 5) (I (-1)))))))))))))))))))))))))))))
def lJ (k:Nat) (kind:Int) (I:Int->OS S):OS S:=ab (kind==15) (I 1) (ab (kind==17) (I 1) (ab (kind==18) (I 1) (ab (kind==16) (I 2) (I 0))))
def Dk (k:Nat) (I:Bool->OS S) (s:BA) (z:Int) (x1:UInt8) (x:Int->OS S) (q:Bool):OS S:=ab (!q) (ab (z==0) (I false) (ab (decide (((x1.toNat:Int):Int)<48)) (I false) (ab (decide (((x1.toNat:Int):Int)>57)) (I false) (x (oa .i64 (z+1)))))) (x (oa .i64 (z+1)))
def Aq (k:Nat) (I:Bool->OS S) (x:Int->OS S) (s:BA) (z:Int) (x1:UInt8):Nat->Bool->OS S
 |0=>fun _=> .none
 |_+1=>fun q=>Dk k I s z x1 x q
def tv (k:Nat) (I:Bool->OS S) (s:BA) (J1:Int->UInt8->Bool->OS S) (x:Int->OS S) (q:Int):OS S:=ab (decide ((q:Int)<(s.size:Int))) (nW (af s.data.toList q) fun x1=>ab (decide (((x1.toNat:Int):Int)>=97)) (ab (decide (((x1.toNat:Int):Int)<=122)) (J1 q x1 true) (ab (decide (((x1.toNat:Int):Int)>=65)) (ab (decide (((x1.toNat:Int):Int)<=90)) (J1 q x1 true) (J1 q x1 ((x1.toNat:Int)==95))) (J1 q x1 ((x1.toNat:Int)==95)))) (ab (decide (((x1.toNat:Int):Int)>=65)) (ab (decide (((x1.toNat:Int):Int)<=90)) (J1 q x1 true) (J1 q x1 ((x1.toNat:Int)==95))) (J1 q x1 ((x1.toNat:Int)==95)))) (I (!(s==oW)))
def n7 (k:Nat) (I:Bool->OS S) (s:BA):Nat->Int->OS S
 |0=>fun _=> .none
 |m+1=>fun x=>tv k I s (fun x x1 q=>Aq k I (n7 k I s m) s x x1 k q) (n7 k I s m) x
def IY (k:Nat) (I:Bool->OS S) (J0:Int->OS S) (s:BA):OS S:=J0 0
def zC (k:Nat) (s:BA) (I:Bool->OS S):OS S:=IY k I (fun q=>n7 k I s k q) s
def pm (k:Nat) (s:Int) (I:Bool->OS S):OS S:=I ((bj .andNot .u32 s 16777215)==0)
def tC (k:Nat) (c:Cl) (I:Bool->OS S):OS S:=aa k (pm k c.pos) fun r1=>ab (r1) (aa k (pm k c.neg) fun q=>I q) (I false)
def pb (k:Nat) (a b:Cl) (I:Cl->OS S):OS S:=I (Cl.mk (bj .or .u32 a.pos b.pos) (bj .or .u32 a.neg b.neg))
def yA (k:Nat) (a b:Cl) (I:Bool->OS S):OS S:=aa k (pb k a b) fun r1=>I ((r1.pos==a.pos)&&((r1.neg==a.neg)&&true))
def yC (k:Nat) (d c0:Cl) (I:Bool->OS S):OS S:=ab (!((c0.pos==d.pos)&&((c0.neg==d.neg)&&true))) (aa k (yA k c0 d) fun r1=>I r1) (I false)
def yc (k:Nat) (I:Int->OS S) (c0:Cl) (s:LC) (q:Int->OS S) (x:Int):OS S:=ab (decide ((x:Int)<(s.length:Int))) (nW (af s x) fun x1=>aa k (yC k x1 c0) fun z=>ab (z) (I x) (q (oa .i64 (x+1)))) (I (-1))
def qO (k:Nat) (I:Int->OS S) (c0:Cl) (s:LC):Nat->Int->OS S
 |0=>fun _=> .none
 |m+1=>fun q=>yc k I c0 s (qO k I c0 s m) q
def IM (k:Nat) (I:Int->OS S) (J0:Int->OS S) (s:LC) (c0:Cl):OS S:=J0 0
def DV (k:Nat) (s:LC) (c0:Cl) (I:Int->OS S):OS S:=IM k I (fun q=>qO k I c0 s k q) s c0
def DT (k:Nat) (s:LC) (c0:Cl) (I:Bool->OS S):OS S:=aa k (DV k s c0) fun r1=>I (decide ((r1:Int)>=0))
def yB (k:Nat) (c:Cl) (c0:LC) (I:Bool->OS S):OS S:=aa k (DT k c0 c) fun r1=>I r1
def wM (k:Nat) (I:LC×Int->OS S) (x:LC) (z:Int->(LC)->OS S) (H8:Int) (q:LC):OS S:=ab (decide ((H8:Int)<(x.length:Int))) (nW (af x H8) fun x4=>aa k (yB k x4 x) fun A=>ab (!A) (nW (aw 1099511627776 q.length [x4].length) fun x6=>z (oa .i64 (H8+1)) (q++[x4])) (z (oa .i64 (H8+1)) q)) (ab (decide (((q.length:Int):Int)>64)) (I (([]:LC),3)) (I (sortCl q,0)))
def nz (k:Nat) (I:LC×Int->OS S) (q:LC):Nat->Int->(LC)->OS S
 |0=>fun _ _=> .none
 |m+1=>fun H8 x=>wM k I q (nz k I q m) H8 x
def m' (k:Nat) (I:LC×Int->OS S) (l:LC) (J1:(LC)->Int->(LC)->OS S) (z:(List (Cl×Bool))->(LC)->Int->OS S) (A:List (Cl×Bool)) (q:LC) (x:Int):OS S:=ab (decide ((x:Int)<(l.length:Int))) (nW (af l x) fun x1=>aa k (tC k x1) fun B=>ab (!B) (I (([]:LC),2)) (ab (!((dW VV ET.C A x1).getD false)) (nW (aw 1099511627776 q.length [x1].length) fun x3=>z (KU VV ET.C A x1 true) (q++[x1]) (oa .i64 (x+1))) (z A q (oa .i64 (x+1))))) (J1 q 0 ([]:LC))
def pZ (k:Nat) (I:LC×Int->OS S) (l:LC):Nat->(List (Cl×Bool))->(LC)->Int->OS S
 |0=>fun _ _ _=> .none
 |m+1=>fun z q A=>m' k I l (fun q H8 x=>nz k I q k H8 x) (pZ k I l m) z q A
def Hw (k:Nat) (I:LC×Int->OS S) (J0:(List (Cl×Bool))->(LC)->Int->OS S) (l:LC):OS S:=J0 ([]:List (Cl×Bool)) ([]:LC) 0
def gy (k:Nat) (l:LC) (I:LC×Int->OS S):OS S:=Hw k I (fun x q z=>pZ k I l k x q z) l
def yb (k:Nat) (I:Bool->OS S) (s1 s2:LC) (x:Int->OS S) (q:Int):OS S:=ab (decide ((q:Int)<(s1.length:Int))) (nW (af s1 q) fun x1=>nW (af s2 q) fun x2=>ab (!((x1.pos==x2.pos)&&((x1.neg==x2.neg)&&true))) (I false) (x (oa .i64 (q+1)))) (I true)
def qN (k:Nat) (I:Bool->OS S) (s1 s2:LC):Nat->Int->OS S
 |0=>fun _=> .none
 |m+1=>fun q=>yb k I s1 s2 (qN k I s1 s2 m) q
def IL (k:Nat) (I:Bool->OS S) (J0:Int->OS S) (s1 s2:LC):OS S:=ab (!((s1.length:Int)==(s2.length:Int))) (I false) (J0 0)
def zz (k:Nat) (s1 s2:LC) (I:Bool->OS S):OS S:=IL k I (fun q=>qN k I s1 s2 k q) s1 s2
def hY (k:Nat) (f:LC) (I:Bool->OS S):OS S:=aa k (gy k f) fun r1=>ab (r1.2==0) (aa k (zz k r1.1 f) fun q=>I q) (I false)
def nd (k:Nat) (i:Int) (I:Bool->OS S):OS S:=ab (decide ((i:Int)>=0)) (I (decide ((i:Int)<24))) (I false)
def jX (k:Nat) (s i:Int) (I:Int->OS S):OS S:=aa k (nd k i) fun r1=>ab (!r1) (I (bj .and .u32 s 16777215)) (nW (bR (0<=(oa .u64 i))) fun x2=>I (bj .andNot .u32 (bj .and .u32 s 16777215) (oa .u32 (1*2^min (zm (oa .u64 i)) 32))))
def wY (k:Nat) (I:Int->OS S) (f:LC) (q:Int->Int->OS S) (z x:Int):OS S:=ab (decide ((x:Int)<(f.length:Int))) (nW (af f x) fun x1=>q (bj .or .u32 z (bj .or .u32 x1.pos x1.neg)) (oa .i64 (x+1))) (aa k (jX k z (-1)) fun A=>I A)
def qb (k:Nat) (I:Int->OS S) (f:LC):Nat->Int->Int->OS S
 |0=>fun _ _=> .none
 |m+1=>fun q x=>wY k I f (qb k I f m) q x
def HL (k:Nat) (I:Int->OS S) (J0:Int->Int->OS S) (f:LC):OS S:=J0 0 0
def pg (k:Nat) (f:LC) (I:Int->OS S):OS S:=HL k I (fun q x=>qb k I f k q x) f
def lK (k:Nat) (f:LC) (nP:Int) (I:Bool->OS S):OS S:=ab (decide ((nP:Int)>=24)) (I true) (aa k (pg k f) fun r1=>nW (bR (0<=(oa .u64 nP))) fun x2=>I ((Int.fdiv r1 (2^min (zm (oa .u64 nP)) 32))==0))
def tB (k:Nat) (c:Cl) (I:Bool->OS S):OS S:=I (!((bj .and .u32 c.pos c.neg)==0))
def yd (k:Nat) (I:Int->OS S) (s:LC) (q:Int->OS S) (x:Int):OS S:=ab (decide ((x:Int)<(s.length:Int))) (nW (af s x) fun x1=>aa k (tB k x1) fun z=>ab (z) (I x) (q (oa .i64 (x+1)))) (I (-1))
def qP (k:Nat) (I:Int->OS S) (s:LC):Nat->Int->OS S
 |0=>fun _=> .none
 |m+1=>fun q=>yd k I s (qP k I s m) q
def IN (k:Nat) (I:Int->OS S) (J0:Int->OS S) (s:LC):OS S:=J0 0
def DW (k:Nat) (s:LC) (I:Int->OS S):OS S:=IN k I (fun q=>qP k I s k q) s
def DU (k:Nat) (s:LC) (I:Bool->OS S):OS S:=aa k (DW k s) fun r1=>I (decide ((r1:Int)>=0))
def pd (k:Nat) (f:LC) (I:Bool->OS S):OS S:=aa k (hY k f) fun r1=>ab (r1) (aa k (DU k f) fun q=>I (!q)) (I false)
def yl (k:Nat) (I:Bool->OS S) (t:Tm) (nP:Int) (x:Int->OS S) (v109:Int):OS S:=ab (decide ((v109:Int)<(t.s.length:Int))) (nW (af t.s v109) fun q=>aa k (lJ k t.k) fun r13=>ab (!((q.c.length:Int)==r13)) (I false) (aa k (pd k q.f) fun r14=>ab (!r14) (I false) (aa k (lK k q.f nP) fun z=>ab (!z) (I false) (x (oa .i64 (v109+1)))))) (I ((t.r.length:Int)==0))
def kO (k:Nat) (I:Bool->OS S) (t:Tm) (nP:Int):Nat->Int->OS S
 |0=>fun _=> .none
 |m+1=>fun v109=>yl k I t nP (kO k I t nP m) v109
def tw (k:Nat) (I:Bool->OS S) (t:Tm) (vars nP:Int) (J1:Int->OS S):OS S:=ab (t.k==1) (ab ((t.r.length:Int)==0) (ab (decide ((t.n:Int)>=0)) (ab (decide ((vars:Int)<0)) (I true) (I (decide ((t.n:Int)<vars)))) (I false)) (I false)) (ab (t.k==2) (ab ((t.r.length:Int)==0) (aa k (zC k t.name) fun z=>I z) (I false)) (ab (t.k==13) (aa k (hY k t.r) fun A=>ab (A) (aa k (lK k t.r nP) fun B=>I B) (I false)) (ab (t.k==21) (aa k (hY k t.r) fun E=>ab (E) (aa k (lK k t.r nP) fun F=>I F) (I false)) (ab (t.k==26) (aa k (hY k t.r) fun J=>ab (J) (aa k (lK k t.r nP) fun L=>I L) (I false)) (ab (t.k==14) (aa k (pd k t.r) fun q=>ab (q) (aa k (lK k t.r nP) fun x=>I x) (I false)) (J1 0))))))
def Ar (k:Nat) (I:Bool->OS S) (t:Tm) (vars nP:Int):Nat->OS S
 |0=> .none
 |_+1=>tw k I t vars nP (fun v109=>kO k I t nP k v109)
def IZ (k:Nat) (I:Bool->OS S) (J0:OS S) (t:Tm) (vars nP:Int):OS S:=aa k (zA k t.k) fun r1=>ab (!(r1==(t.c.length:Int))) (I false) (ab (!(t.k==1)) (ab (!(t.n==0)) (I false) (ab (!(t.k==2)) (ab (!(t.name==oW)) (I false) (aa k (lJ k t.k) fun A=>ab (A==0) (ab (decide (((t.s.length:Int):Int)>0)) (I false) (J0)) (J0))) (aa k (lJ k t.k) fun q=>ab (q==0) (ab (decide (((t.s.length:Int):Int)>0)) (I false) (J0)) (J0)))) (ab (!(t.k==2)) (ab (!(t.name==oW)) (I false) (aa k (lJ k t.k) fun x=>ab (x==0) (ab (decide (((t.s.length:Int):Int)>0)) (I false) (J0)) (J0))) (aa k (lJ k t.k) fun z=>ab (z==0) (ab (decide (((t.s.length:Int):Int)>0)) (I false) (J0)) (J0))))
def uj (k:Nat) (t:Tm) (vars nP:Int) (I:Bool->OS S):OS S:=IZ k I (Ar k I t vars nP k) t vars nP
abbrev dr (S:Type):=Tm->Int->Int->Bool->(Bool->OS S)->OS S
def uh (hd:dr S) (k:Nat) (Dd:Tm) (v d c0 c1:Int) (c2:Bool) (I:Bool->OS S):OS S:=ab (decide ((c0:Int)<0)) (hd (ac Dd) (oa .i64 (c0+0)) (oa .i64 (c1+d)) c2 fun r1=>I r1) (hd (ac Dd) (oa .i64 (c0+v)) (oa .i64 (c1+d)) c2 fun q=>I q)
def yh (hd:dr S) (k:Nat) (I:Bool->OS S) (c0 c1:Int) (c2:Bool) (t:Tm) (ox:Int) (x4:(Br Tm)) (q:Int) (x:Int->Int->OS S) (z:Int->OS S) (qC:Int):OS S:=ab (decide ((qC:Int)<(x4.c.length:Int))) (nW (af x4.c qC) fun x5=>aa k (uh hd k (ac x5) 0 q c0 c1 c2) fun A=>ab (!A) (I false) (z (oa .i64 (qC+1)))) (x (oa .i64 (ox+1)) q)
def mi (hd:dr S) (k:Nat) (I:Bool->OS S) (x:Int->Int->OS S) (c0 c1:Int) (c2:Bool) (t:Tm) (ox:Int) (x4:(Br Tm)) (q:Int):Nat->Int->OS S
 |0=>fun _=> .none
 |m+1=>fun qC=>yh hd k I c0 c1 c2 t ox x4 q x (mi hd k I x c0 c1 c2 t ox x4 q m) qC
def tl (hd:dr S) (k:Nat) (I:Bool->OS S) (c0 c1:Int) (c2:Bool) (t:Tm) (J2:Int->(Br Tm)->Int->Int->OS S) (x:Int->Int->OS S) (ox q:Int):OS S:=ab (decide ((ox:Int)<(t.s.length:Int))) (nW (af t.s ox) fun x4=>J2 ox x4 q 0) (I true)
def iC (hd:dr S) (k:Nat) (I:Bool->OS S) (c0 c1:Int) (c2:Bool) (t:Tm):Nat->Int->Int->OS S
 |0=>fun _ _=> .none
 |m+1=>fun ox q=>tl hd k I c0 c1 c2 t (fun ox x4 q qC=>mi hd k I (iC hd k I c0 c1 c2 t m) c0 c1 c2 t ox x4 q k qC) (iC hd k I c0 c1 c2 t m) ox q
def tk (hd:dr S) (k:Nat) (I:Bool->OS S) (c0 c1:Int) (c2:Bool) (t:Tm) (J1:Int->Int->OS S) (q:Int->OS S) (ov:Int):OS S:=ab (decide ((ov:Int)<(t.c.length:Int))) (nW (af t.c ov) fun x1=>aa k (gI k t.k ov) fun x=>aa k (uh hd k (ac x1) x.1 x.2 c0 c1 c2) fun z=>ab (!z) (I false) (q (oa .i64 (ov+1)))) (ab (t.k==15) (J1 0 1) (J1 0 0))
def nZ (hd:dr S) (k:Nat) (I:Bool->OS S) (c0 c1:Int) (c2:Bool) (t:Tm):Nat->Int->OS S
 |0=>fun _=> .none
 |m+1=>fun ov=>tk hd k I c0 c1 c2 t (fun ox q=>iC hd k I c0 c1 c2 t k ox q) (nZ hd k I c0 c1 c2 t m) ov
def IU (hd:dr S) (k:Nat) (I:Bool->OS S) (J0:Int->OS S) (t:Tm) (c0 c1:Int) (c2:Bool):OS S:=J0 0
def zB (hd:dr S) (k:Nat) (t:Tm) (c0 c1:Int) (c2:Bool) (I:Bool->OS S):OS S:=IU hd k I (fun ov=>nZ hd k I c0 c1 c2 t k ov) t c0 c1 c2
def TT (hd:dr S) (k:Nat) (I:Bool->OS S) (t:Tm) (vars nP:Int) (bound:Bool):OS S:=ab (bound) (ab (decide ((nP:Int)>24)) (I false) (aa k (uj k (ac t) vars nP) fun r1=>ab (!r1) (I false) (aa k (zB hd k (ac t) vars nP bound) fun q=>I q))) (aa k (uj k (ac t) vars nP) fun x=>ab (!x) (I false) (aa k (zB hd k (ac t) vars nP bound) fun z=>I z))
def KW:Nat->Tm->Int->Int->Bool->(Bool->OS S)->OS S
 |0=>fun _ _ _ _ _=> .none
 |k+1=>fun t vars nP bound I=>TT (KW k) k I t vars nP bound
def Dh (k:Nat) (t:Tm) (I:Int->OS S):OS S:=aa k (zD k (ac t)) fun r1=>ab (!(r1==0)) (I r1) (KW k (ac t) (-1) 24 false fun q=>ab (!q) (I 100) (I 0))
abbrev eP (S:Type):=Tm->(Tm->OS S)->OS S
def yf (hd:eP S) (k:Nat) (I:LT->OS S) (l:LT) (x:(LT)->Int->OS S) (q:LT) (z:Int):OS S:=ab (decide ((z:Int)<(l.length:Int))) (nW (af l z) fun x1=>hd (ac x1) fun A=>nW (aw 1099511627776 q.length [(ac A)].length) fun x3=>x (q++[(ac A)]) (oa .i64 (z+1))) (I q)
def mb (hd:eP S) (k:Nat) (I:LT->OS S) (l:LT):Nat->(LT)->Int->OS S
 |0=>fun _ _=> .none
 |m+1=>fun q x=>yf hd k I l (mb hd k I l m) q x
def IS (hd:eP S) (k:Nat) (I:LT->OS S) (J0:(LT)->Int->OS S) (l:LT):OS S:=J0 ([]:LT) 0
def ui (hd:eP S) (k:Nat) (l:LT) (I:LT->OS S):OS S:=IS hd k I (fun q x=>mb hd k I l k q x) l
def ye (hd:eP S) (k:Nat) (I:Tm->OS S) (t:Tm) (r1:LC) (r2:LT) (x:(LB)->Int->OS S) (q:LB) (v22:Int):OS S:=ab (decide ((v22:Int)<(t.s.length:Int))) (nW (af t.s v22) fun x3=>iu x3.f fun z=>aa k (ui hd k x3.c) fun A=>nW (aw 1099511627776 q.length [(Br.mk z A)].length) fun x6=>x (q++[(Br.mk z A)]) (oa .i64 (v22+1))) (I (Tm.mk t.k t.n t.name r1 r2 q))
def qQ (hd:eP S) (k:Nat) (I:Tm->OS S) (t:Tm) (r1:LC) (r2:LT):Nat->(LB)->Int->OS S
 |0=>fun _ _=> .none
 |m+1=>fun q v22=>ye hd k I t r1 r2 (qQ hd k I t r1 r2 m) q v22
def IP (hd:eP S) (k:Nat) (I:Tm->OS S) (J0:(LC)->(LT)->(LB)->Int->OS S) (t:Tm):OS S:=iu t.r fun r1=>aa k (ui hd k t.c) fun q=>J0 r1 q ([]:LB) 0
def dJ:Nat->Tm->(Tm->OS S)->OS S
 |0=>fun _ _=> .none
 |k+1=>fun t I=>IP (dJ k) k I (fun r1 x q v22=>qQ (dJ k) k I t r1 x k q v22) t
def dG (k:Nat) (c0:Int) (I:Bool->OS S):OS S:=I (c0==0)
abbrev dq (S:Type):=Tm->(Int->OS S)->OS S
def ug (hd:dq S) (k:Nat) (Dd:Tm) (p q c0:Int) (I:Bool×Int->OS S):OS S:=hd (ac Dd) fun r1=>I (true,oa .i64 (c0+r1))
def yj (hd:dq S) (k:Nat) (I:Bool×Int->OS S) (t:Tm) (ox:Int) (x4:(Br Tm)) (q:Int) (x:Int->Int->Int->OS S) (z:Int->Int->OS S) (qB qC:Int):OS S:=ab (decide ((qC:Int)<(x4.c.length:Int))) (nW (af x4.c qC) fun x5=>aa k (ug hd k (ac x5) 0 q qB) fun A=>ab (!A.1) (I (false,A.2)) (z A.2 (oa .i64 (qC+1)))) (x qB (oa .i64 (ox+1)) q)
def n4 (hd:dq S) (k:Nat) (I:Bool×Int->OS S) (x:Int->Int->Int->OS S) (t:Tm) (ox:Int) (x4:(Br Tm)) (q:Int):Nat->Int->Int->OS S
 |0=>fun _ _=> .none
 |m+1=>fun qB qC=>yj hd k I t ox x4 q x (n4 hd k I x t ox x4 q m) qB qC
def tr (hd:dq S) (k:Nat) (I:Bool×Int->OS S) (t:Tm) (J2:Int->(Br Tm)->Int->Int->Int->OS S) (x:Int->Int->Int->OS S) (qn ox q:Int):OS S:=ab (decide ((ox:Int)<(t.s.length:Int))) (nW (af t.s ox) fun x4=>J2 ox x4 q qn 0) (I (true,qn))
def kM (hd:dq S) (k:Nat) (I:Bool×Int->OS S) (t:Tm):Nat->Int->Int->Int->OS S
 |0=>fun _ _ _=> .none
 |m+1=>fun qn ox q=>tr hd k I t (fun ox x4 q qB qC=>n4 hd k I (kM hd k I t m) t ox x4 q k qB qC) (kM hd k I t m) qn ox q
def tq (hd:dq S) (k:Nat) (I:Bool×Int->OS S) (t:Tm) (J1:Int->Int->Int->OS S) (x:Int->Int->OS S) (q ov:Int):OS S:=ab (decide ((ov:Int)<(t.c.length:Int))) (nW (af t.c ov) fun x1=>aa k (gI k t.k ov) fun A=>aa k (ug hd k (ac x1) A.1 A.2 q) fun z=>ab (!z.1) (I (false,z.2)) (x z.2 (oa .i64 (ov+1)))) (ab (t.k==15) (J1 q 0 1) (J1 q 0 0))
def iv (hd:dq S) (k:Nat) (I:Bool×Int->OS S) (t:Tm):Nat->Int->Int->OS S
 |0=>fun _ _=> .none
 |m+1=>fun x ov=>tq hd k I t (fun qn ox q=>kM hd k I t k qn ox q) (iv hd k I t m) x ov
def IW (hd:dq S) (k:Nat) (I:Bool×Int->OS S) (J0:Int->Int->OS S) (t:Tm) (c0:Int):OS S:=J0 c0 0
def DY (hd:dq S) (k:Nat) (t:Tm) (c0:Int) (I:Bool×Int->OS S):OS S:=IW hd k I (fun q ov=>iv hd k I t k q ov) t c0
def TS (hd:dq S) (k:Nat) (I:Int->OS S) (t:Tm):OS S:=aa k (DY hd k (ac t) 1) fun r1=>I r1.2
def j6:Nat->Tm->(Int->OS S)->OS S
 |0=>fun _ _=> .none
 |k+1=>fun t I=>TS (j6 k) k I t
abbrev fK (S:Type):=Tm->Int->(Int->OS S)->OS S
def xh (hd:fK S) (k:Nat) (I:Int->OS S) (qm:Int) (t:Tm) (qC:Int) (x4:(Br Tm)) (z:Int->Int->OS S) (A:Int->Int->OS S) (q x:Int):OS S:=ab (decide ((x:Int)<(x4.c.length:Int))) (nW (af x4.c x) fun x5=>hd (ac x5) qm fun B=>A (oa .i64 (q+B)) (oa .i64 (x+1))) (z (oa .i64 (qC+1)) q)
def nG (hd:fK S) (k:Nat) (I:Int->OS S) (x:Int->Int->OS S) (qm:Int) (t:Tm) (qC:Int) (x4:(Br Tm)):Nat->Int->Int->OS S
 |0=>fun _ _=> .none
 |m+1=>fun q z=>xh hd k I qm t qC x4 x (nG hd k I x qm t qC x4 m) q z
def sE (hd:fK S) (k:Nat) (I:Int->OS S) (qm:Int) (t:Tm) (J3:Int->(Br Tm)->Int->Int->OS S) (x:Int->Int->OS S) (qC q:Int):OS S:=ab (decide ((qC:Int)<(t.s.length:Int))) (nW (af t.s qC) fun x4=>J3 qC x4 q 0) (I q)
def ku (hd:fK S) (k:Nat) (I:Int->OS S) (qm:Int) (t:Tm):Nat->Int->Int->OS S
 |0=>fun _ _=> .none
 |m+1=>fun qC x=>sE hd k I qm t (fun qC x4 q z=>nG hd k I (ku hd k I qm t m) qm t qC x4 k q z) (ku hd k I qm t m) qC x
def sD (hd:fK S) (k:Nat) (I:Int->OS S) (t:Tm) (qm:Int) (J2:Int->Int->OS S) (x:Int->Int->OS S) (Fk q:Int):OS S:=ab (decide ((Fk:Int)<(t.c.length:Int))) (nW (af t.c Fk) fun x1=>aa k (gI k t.k Fk) fun z=>hd (ac x1) (oa .i64 (qm+z.1)) fun A=>x (oa .i64 (Fk+1)) (oa .i64 (q+A))) (J2 0 q)
def nF (hd:fK S) (k:Nat) (I:Int->OS S) (t:Tm) (qm:Int):Nat->Int->Int->OS S
 |0=>fun _ _=> .none
 |m+1=>fun Fk x=>sD hd k I t qm (fun qC q=>ku hd k I qm t k qC q) (nF hd k I t qm m) Fk x
def xg (hd:fK S) (k:Nat) (I:Int->OS S) (t:Tm) (qm:Int) (J1:Int->Int->OS S):OS S:=J1 0 0
def Ak (hd:fK S) (k:Nat) (I:Int->OS S) (t:Tm) (qm:Int):Nat->OS S
 |0=> .none
 |_+1=>xg hd k I t qm (fun Fk q=>nF hd k I t qm k Fk q)
def BU (hd:fK S) (k:Nat) (I:Int->OS S) (J0:OS S) (t:Tm) (qm:Int):OS S:=ab (t.k==1) (ab (t.n==qm) (I 1) (J0)) (J0)
def gz:Nat->Tm->Int->(Int->OS S)->OS S
 |0=>fun _ _ _=> .none
 |k+1=>fun t qm I=>BU (gz k) k I (Ak (gz k) k I t qm k) t qm
def w9 (k:Nat) (I:Int->OS S) (l:List (LC)) (q:Int->OS S) (x:Int):OS S:=ab (decide ((x:Int)<(l.length:Int))) (nW (af l x) fun x1=>aa k (hY k x1) fun z=>ab (!z) (I 2) (q (oa .i64 (x+1)))) (I 0)
def qi (k:Nat) (I:Int->OS S) (l:List (LC)):Nat->Int->OS S
 |0=>fun _=> .none
 |m+1=>fun q=>w9 k I l (qi k I l m) q
def HT (k:Nat) (I:Int->OS S) (J0:Int->OS S) (l:List (LC)):OS S:=J0 0
def pi (k:Nat) (l:List (LC)) (I:Int->OS S):OS S:=HT k I (fun q=>qi k I l k q) l
def tK (k:Nat) (I:LC->OS S):OS S:=I ([]:LC)
def pn (k:Nat) (i:Int) (I:Int->OS S):OS S:=nW (bR (0<=(oa .u64 (if 24<i then 24 else i)))) fun x1=>I (oa .u32 (oa .u64 ((oa .u64 (1*2^min (zm (oa .u64 (if 24<i then 24 else i))) 64))-1)))
def lx (k:Nat) (s ow qu:Int) (I:Int×Int->OS S):OS S:=ab (decide ((ow:Int)<0)) (I (0,2)) (ab (decide ((qu:Int)<0)) (I (0,2)) (aa k (pn k ow) fun r1=>aa k (pn k ow) fun q=>ab ((oa .u64 (bj .andNot .u32 (bj .and .u32 s 16777215) q))==0) (I (bj .and .u32 (bj .and .u32 s 16777215) r1,0)) (ab (decide ((qu:Int)>=24)) (I (0,10)) (nW (bR (0<=(oa .u64 qu))) fun x3=>ab (decide ((oa .u64 ((oa .u64 (bj .andNot .u32 (bj .and .u32 s 16777215) q))*2^min (zm (oa .u64 qu)) 64):Int)>16777215)) (I (0,10)) (nW (bR (0<=(oa .u64 qu))) fun x4=>I (bj .or .u32 (bj .and .u32 (bj .and .u32 s 16777215) r1) (oa .u32 (oa .u64 ((oa .u64 (bj .andNot .u32 (bj .and .u32 s 16777215) q))*2^min (zm (oa .u64 qu)) 64))),0))))))
def yD (k:Nat) (c:Cl) (ow qu:Int) (I:Cl×Int->OS S):OS S:=aa k (tC k c) fun r1=>ab (!r1) (I ((Cl.mk 0 0),2)) (aa k (lx k c.pos ow qu) fun q=>ab (!(q.2==0)) (I ((Cl.mk 0 0),q.2)) (aa k (lx k c.neg ow qu) fun x=>ab (!(x.2==0)) (I ((Cl.mk 0 0),x.2)) (I ((Cl.mk q.1 x.1),0))))
def DN (k:Nat) (sU:LC) (c:Cl) (c0 c1:Int) (I:LC×Int->OS S):OS S:=aa k (yD k c c0 c1) fun r1=>nW (aw 1099511627776 sU.length [r1.1].length) fun x2=>I (sU++[r1.1],r1.2)
def l1 (k:Nat) (I:LC×Int->OS S) (c0 c1:Int) (l:LC) (x:(LC)->Int->OS S) (v1:LC) (q:Int):OS S:=ab (decide ((q:Int)<(l.length:Int))) (nW (af l q) fun x1=>aa k (DN k v1 x1 c0 c1) fun z=>ab (!(z.2==0)) (I (([]:LC),z.2)) (x z.1 (oa .i64 (q+1)))) (I (v1,0))
def qf (k:Nat) (I:LC×Int->OS S) (c0 c1:Int) (l:LC):Nat->(LC)->Int->OS S
 |0=>fun _ _=> .none
 |m+1=>fun v1 q=>l1 k I c0 c1 l (qf k I c0 c1 l m) v1 q
def HQ (k:Nat) (I:LC×Int->OS S) (J0:(LC)->Int->OS S) (l ow:LC) (c0 c1:Int):OS S:=J0 ow 0
def yT (k:Nat) (l ow:LC) (c0 c1:Int) (I:LC×Int->OS S):OS S:=HQ k I (fun v1 q=>qf k I c0 c1 l k v1 q) l ow c0 c1
def jV (k:Nat) (f:LC) (ow qu:Int) (I:LC×Int->OS S):OS S:=aa k (pi k [f]) fun r1=>ab (!(r1==0)) (I (([]:LC),r1)) (aa k (tK k) fun z=>aa k (yT k f z ow qu) fun q=>ab (!(q.2==0)) (I (([]:LC),q.2)) (aa k (gy k q.1) fun x=>I (x.1,x.2)))
def tN (k:Nat) (l_0 l_1:Int) (f:LC) (ow:Int) (I:pr Int (LC)->OS S):OS S:=ab (l_1==0) (nW (aw 1099511627776 0 f.length) fun x1=>I (.ok f)) (ab (decide ((ow:Int)>=24)) (nW (aw 1099511627776 0 f.length) fun x2=>I (.ok f)) (aa k (jV k f ow l_1) fun q=>ab (!(q.2==0)) (I (.bD q.2)) (I (.ok q.1))))
abbrev fJ (S:Type):=Int->Int->Tm->Int->Int->(pr Int Tm->OS S)->OS S
def xe (hd:fJ S) (k:Nat) (I:pr Int Tm->OS S) (tf:LC) (l_0 l_1:Int) (t:Tm) (T:Int) (r2:LC) (O:LT) (B:LB) (E:(Br Tm)) (x v d xk:Int) (F:(LB)->Int->Int->OS S) (J:(LT)->Int->OS S) (q:LT) (z:Int):OS S:=ab (decide ((z:Int)<(E.c.length:Int))) (nW (af E.c z) fun L=>hd l_0 l_1 (ac L) v (oa .i64 (d+x)) fun A=>pr.elim A (fun A=>nW (aw 1099511627776 q.length [(ac A)].length) fun W=>J (q++[(ac A)]) (oa .i64 (z+1))) (fun M=>I (.bD M))) (nW (aw 1099511627776 B.length [(Br.mk tf q)].length) fun Y=>F (B++[(Br.mk tf q)]) x (oa .i64 (xk+1)))
def l7 (hd:fJ S) (k:Nat) (I:pr Int Tm->OS S) (x:(LB)->Int->Int->OS S) (tf:LC) (l_0 l_1:Int) (t:Tm) (E:Int) (r2:LC) (z:LT) (A:LB) (F:(Br Tm)) (q v d xk:Int):Nat->(LT)->Int->OS S
 |0=>fun _ _=> .none
 |m+1=>fun B J=>xe hd k I tf l_0 l_1 t E r2 z A F q v d xk x (l7 hd k I x tf l_0 l_1 t E r2 z A F q v d xk m) B J
def sA (hd:fJ S) (k:Nat) (I:pr Int Tm->OS S) (l_0 l_1:Int) (t:Tm) (E:Int) (r2:LC) (A:LT) (v d:Int) (J3:(LC)->(LB)->(Br Tm)->Int->Int->(LT)->Int->OS S) (J:(LB)->Int->Int->OS S) (x:LB) (q xk:Int):OS S:=ab (decide ((xk:Int)<(t.s.length:Int))) (nW (af t.s xk) fun B=>aa k (tN k l_0 l_1 B.f d) fun z=>pr.elim z (fun z=>J3 z x B q xk ([]:LT) 0) (fun F=>I (.bD F))) (I (.ok (Tm.mk t.k E t.name r2 A x)))
def Mv (hd:fJ S) (k:Nat) (I:pr Int Tm->OS S) (l_0 l_1:Int) (t:Tm) (A:Int) (r2:LC) (x:LT) (v d:Int):Nat->(LB)->Int->Int->OS S
 |0=>fun _ _ _=> .none
 |m+1=>fun z q B=>sA hd k I l_0 l_1 t A r2 x v d (fun J z L q B E F=>l7 hd k I (Mv hd k I l_0 l_1 t A r2 x v d m) J l_0 l_1 t A r2 x z L q v d B k E F) (Mv hd k I l_0 l_1 t A r2 x v d m) z q B
def sz (hd:fJ S) (k:Nat) (I:pr Int Tm->OS S) (l_0 l_1:Int) (t:Tm) (E:Int) (r2:LC) (v d:Int) (J2:(LT)->(LB)->Int->Int->OS S) (z:(LT)->Int->OS S) (q:LT) (x:Int):OS S:=ab (decide ((x:Int)<(t.c.length:Int))) (nW (af t.c x) fun x4=>aa k (gI k t.k x) fun B=>hd l_0 l_1 (ac x4) (oa .i64 (v+B.1)) (oa .i64 (d+B.2)) fun A=>pr.elim A (fun A=>nW (aw 1099511627776 q.length [(ac A)].length) fun J=>z (q++[(ac A)]) (oa .i64 (x+1))) (fun F=>I (.bD F))) (ab (t.k==15) (J2 q ([]:LB) 1 0) (J2 q ([]:LB) 0 0))
def Nc (hd:fJ S) (k:Nat) (I:pr Int Tm->OS S) (l_0 l_1:Int) (t:Tm) (z:Int) (r2:LC) (v d:Int):Nat->(LT)->Int->OS S
 |0=>fun _ _=> .none
 |m+1=>fun q B=>sz hd k I l_0 l_1 t z r2 v d (fun q A x E=>Mv hd k I l_0 l_1 t z r2 q v d k A x E) (Nc hd k I l_0 l_1 t z r2 v d m) q B
def Da (hd:fJ S) (k:Nat) (I:pr Int Tm->OS S) (l_0 l_1:Int) (t:Tm) (r2:LC) (v d:Int) (J1:Int->(LT)->Int->OS S) (q:Int):OS S:=J1 q ([]:LT) 0
def uJ (hd:fJ S) (k:Nat) (I:pr Int Tm->OS S) (l_0 l_1:Int) (t:Tm) (r2:LC) (v d:Int):Nat->Int->OS S
 |0=>fun _=> .none
 |_+1=>fun q=>Da hd k I l_0 l_1 t r2 v d (fun q x z=>Nc hd k I l_0 l_1 t q r2 v d k x z) q
def HY (hd:fJ S) (k:Nat) (I:pr Int Tm->OS S) (J0:(LC)->Int->OS S) (l_0 l_1:Int) (t:Tm) (v d:Int):OS S:=aa k (tN k l_0 l_1 t.r d) fun q=>pr.elim q (fun q=>ab (t.k==1) (ab (decide ((t.n:Int)>=v)) (ab (decide ((t.n:Int)>(oa .i64 (1000000000-l_0)))) (I (.bD 100)) (J0 q (oa .i64 (t.n+l_0)))) (J0 q t.n)) (J0 q t.n)) (fun x=>I (.bD x))
def dk:Nat->Int->Int->Tm->Int->Int->(pr Int Tm->OS S)->OS S
 |0=>fun _ _ _ _ _ _=> .none
 |k+1=>fun l_0 l_1 t v d I=>HY (dk k) k I (fun x q=>uJ (dk k) k I l_0 l_1 t x v d k q) l_0 l_1 t v d
def yW (k:Nat) (c0 c1:Int) (c2:Tm) (I:pr Int Tm->OS S):OS S:=dk k c1 0 (ac c2) 0 0 fun q=>pr.elim q (fun q=>dk k 0 c0 (ac q) 0 0 fun x=>pr.elim x (fun x=>I (.ok (ac x))) (fun z=>I (.bD z))) (fun A=>I (.bD A))
def xd (k:Nat) (I:Tm×Int->OS S) (c0 c1:Int) (c2:Tm) (numbers:List Int) (x:Int->OS S) (q:Int):OS S:=ab (decide ((q:Int)<(numbers.length:Int))) (nW (af numbers q) fun x2=>ab (decide ((x2:Int)<0)) (I ((Tm.mk 0 0 oW [] [] []),2)) (x (oa .i64 (q+1)))) (aa k (yW k c0 c1 (ac c2)) fun z=>pr.elim z (fun z=>I ((ac z),0)) (fun A=>I ((Tm.mk 0 0 oW [] [] []),A)))
def nE (k:Nat) (I:Tm×Int->OS S) (c0 c1:Int) (c2:Tm) (numbers:List Int):Nat->Int->OS S
 |0=>fun _=> .none
 |m+1=>fun q=>xd k I c0 c1 c2 numbers (nE k I c0 c1 c2 numbers m) q
def BS (k:Nat) (I:Tm×Int->OS S) (J0:Int->OS S) (t:Tm) (numbers:List Int) (c0 c1:Int) (c2:Tm):OS S:=aa k (Dh k (ac t)) fun r1=>ab (!(r1==0)) (I ((Tm.mk 0 0 oW [] [] []),r1)) (J0 0)
def y7 (k:Nat) (t:Tm) (numbers:List Int) (c0 c1:Int) (c2:Tm) (I:Tm×Int->OS S):OS S:=BS k I (fun q=>nE k I c0 c1 c2 numbers k q) t numbers c0 c1 c2
def lu (k:Nat) (t:Tm) (vars nP:Int) (I:Tm×Int->OS S):OS S:=aa k (y7 k (ac t) [vars,nP,oa .i64 (1000000-vars)] nP vars (ac t)) fun r1=>I ((ac r1.1),r1.2)
def ze (k:Nat) (t:Tm) (I:Int->OS S):OS S:=ab (t.k==15) (I 1) (I 0)
abbrev gX (S:Type):=Tm->Int->Tm->Int->Int->(pr Int Tm->OS S)->OS S
def xj (hd:gX S) (k:Nat) (I:pr Int Tm->OS S) (t:Tm) (F:LT) (x:LB) (E:(Br Tm)) (u:Tm) (qm vars nP J:Int) (A:(LB)->Int->OS S) (B:(LT)->Int->OS S) (q:LT) (z:Int):OS S:=ab (decide ((z:Int)<(E.c.length:Int))) (nW (af E.c z) fun L=>aa k (ze k (ac t)) fun M=>hd (ac L) qm (ac u) vars (oa .i64 (nP+M)) fun r14=>pr.elim r14 (fun r14=>nW (aw 1099511627776 q.length [(ac r14)].length) fun T=>B (q++[(ac r14)]) (oa .i64 (z+1))) (fun O=>I (.bD O))) (nW (aw 1099511627776 x.length [(Br.mk E.f q)].length) fun W=>A (x++[(Br.mk E.f q)]) (oa .i64 (J+1)))
def Sv (hd:gX S) (k:Nat) (I:pr Int Tm->OS S) (z:(LB)->Int->OS S) (t:Tm) (q:LT) (x:LB) (F:(Br Tm)) (u:Tm) (qm vars nP B:Int):Nat->(LT)->Int->OS S
 |0=>fun _ _=> .none
 |m+1=>fun A E=>xj hd k I t q x F u qm vars nP B z (Sv hd k I z t q x F u qm vars nP B m) A E
def fg (hd:gX S) (k:Nat) (I:pr Int Tm->OS S) (t:Tm) (x:LT) (u:Tm) (qm vars nP:Int) (J2:(LB)->(Br Tm)->Int->(LT)->Int->OS S) (A:(LB)->Int->OS S) (q:LB) (z:Int):OS S:=ab (decide ((z:Int)<(t.s.length:Int))) (nW (af t.s z) fun B=>nW (aw 1099511627776 0 B.f.length) fun E=>J2 q B z ([]:LT) 0) (I (.ok (Tm.mk t.k 0 t.name t.r x q)))
def kw (hd:gX S) (k:Nat) (I:pr Int Tm->OS S) (t:Tm) (q:LT) (u:Tm) (qm vars nP:Int):Nat->(LB)->Int->OS S
 |0=>fun _ _=> .none
 |m+1=>fun x z=>fg hd k I t q u qm vars nP (fun x E z A B=>Sv hd k I (kw hd k I t q u qm vars nP m) t q x E u qm vars nP z k A B) (kw hd k I t q u qm vars nP m) x z
def qU (hd:gX S) (k:Nat) (I:pr Int Tm->OS S) (t u:Tm) (qm vars nP:Int) (J1:(LT)->(LB)->Int->OS S) (x:(LT)->Int->OS S) (q:LT) (Hg:Int):OS S:=ab (decide ((Hg:Int)<(t.c.length:Int))) (nW (af t.c Hg) fun x3=>aa k (gI k t.k Hg) fun A=>hd (ac x3) qm (ac u) (oa .i64 (vars+A.1)) (oa .i64 (nP+A.2)) fun z=>pr.elim z (fun z=>nW (aw 1099511627776 q.length [(ac z)].length) fun E=>x (q++[(ac z)]) (oa .i64 (Hg+1))) (fun B=>I (.bD B))) (J1 q ([]:LB) 0)
def qj (hd:gX S) (k:Nat) (I:pr Int Tm->OS S) (t u:Tm) (qm vars nP:Int):Nat->(LT)->Int->OS S
 |0=>fun _ _=> .none
 |m+1=>fun q Hg=>qU hd k I t u qm vars nP (fun q x z=>kw hd k I t q u qm vars nP k x z) (qj hd k I t u qm vars nP m) q Hg
def H2 (hd:gX S) (k:Nat) (I:pr Int Tm->OS S) (J0:(LT)->Int->OS S) (t:Tm) (qm:Int) (u:Tm) (vars nP:Int):OS S:=ab (t.k==1) (ab (t.n==(oa .i64 (qm+vars))) (aa k (lu k (ac u) vars nP) fun r1=>ab (!(r1.2==0)) (I (.bD r1.2)) (I (.ok (ac r1.1)))) (ab (decide ((t.n:Int)>(oa .i64 (qm+vars)))) (I (.ok (Tm.mk 1 (oa .i64 (t.n-1)) oW [] [] []))) (I (.ok (ac t))))) (nW (aw 1099511627776 0 t.r.length) fun x2=>J0 ([]:LT) 0)
def gA:Nat->Tm->Int->Tm->Int->Int->(pr Int Tm->OS S)->OS S
 |0=>fun _ _ _ _ _ _=> .none
 |k+1=>fun t qm u vars nP I=>H2 (gA k) k I (fun q Hg=>qj (gA k) k I t u qm vars nP k q Hg) t qm u vars nP
abbrev dp (S:Type):=Tm->(Int->OS S)->OS S
def e6 (hd:dp S) (k:Nat) (Dd:Tm) (p q c0:Int) (I:Bool×Int->OS S):OS S:=hd (ac Dd) fun r1=>I (true,if r1>c0 then r1 else c0)
def yk (hd:dp S) (k:Nat) (I:Bool×Int->OS S) (t:Tm) (ox:Int) (x4:(Br Tm)) (q:Int) (x:Int->Int->Int->OS S) (z:Int->Int->OS S) (qB qC:Int):OS S:=ab (decide ((qC:Int)<(x4.c.length:Int))) (nW (af x4.c qC) fun x5=>aa k (e6 hd k (ac x5) 0 q qB) fun A=>ab (!A.1) (I (false,A.2)) (z A.2 (oa .i64 (qC+1)))) (x qB (oa .i64 (ox+1)) q)
def n5 (hd:dp S) (k:Nat) (I:Bool×Int->OS S) (x:Int->Int->Int->OS S) (t:Tm) (ox:Int) (x4:(Br Tm)) (q:Int):Nat->Int->Int->OS S
 |0=>fun _ _=> .none
 |m+1=>fun qB qC=>yk hd k I t ox x4 q x (n5 hd k I x t ox x4 q m) qB qC
def tu (hd:dp S) (k:Nat) (I:Bool×Int->OS S) (t:Tm) (J2:Int->(Br Tm)->Int->Int->Int->OS S) (x:Int->Int->Int->OS S) (qn ox q:Int):OS S:=ab (decide ((ox:Int)<(t.s.length:Int))) (nW (af t.s ox) fun x4=>J2 ox x4 q qn 0) (I (true,qn))
def kN (hd:dp S) (k:Nat) (I:Bool×Int->OS S) (t:Tm):Nat->Int->Int->Int->OS S
 |0=>fun _ _ _=> .none
 |m+1=>fun qn ox q=>tu hd k I t (fun ox x4 q qB qC=>n5 hd k I (kN hd k I t m) t ox x4 q k qB qC) (kN hd k I t m) qn ox q
def gw (hd:dp S) (k:Nat) (I:Bool×Int->OS S) (t:Tm) (J1:Int->Int->Int->OS S) (x:Int->Int->OS S) (q ov:Int):OS S:=ab (decide ((ov:Int)<(t.c.length:Int))) (nW (af t.c ov) fun x1=>aa k (gI k t.k ov) fun A=>aa k (e6 hd k (ac x1) A.1 A.2 q) fun z=>ab (!z.1) (I (false,z.2)) (x z.2 (oa .i64 (ov+1)))) (ab (t.k==15) (J1 q 0 1) (J1 q 0 0))
def mc (hd:dp S) (k:Nat) (I:Bool×Int->OS S) (t:Tm):Nat->Int->Int->OS S
 |0=>fun _ _=> .none
 |m+1=>fun x ov=>gw hd k I t (fun qn ox q=>kN hd k I t k qn ox q) (mc hd k I t m) x ov
def IX (hd:dp S) (k:Nat) (I:Bool×Int->OS S) (J0:Int->Int->OS S) (t:Tm) (c0:Int):OS S:=J0 c0 0
def DZ (hd:dp S) (k:Nat) (t:Tm) (c0:Int) (I:Bool×Int->OS S):OS S:=IX hd k I (fun q ov=>mc hd k I t k q ov) t c0
def TO (hd:dp S) (k:Nat) (I:Int->OS S) (t:Tm):OS S:=aa k (DZ hd k (ac t) 0) fun r1=>I (oa .i64 (r1.2+1))
def j5:Nat->Tm->(Int->OS S)->OS S
 |0=>fun _ _=> .none
 |k+1=>fun t I=>TO (j5 k) k I t
def zd (k:Nat) (t:Tm) (qm:Int) (u:Tm) (I:Tm×Int->OS S):OS S:=aa k (Dh k (ac t)) fun r1=>ab (!(r1==0)) (I ((Tm.mk 0 0 oW [] [] []),r1)) (aa k (Dh k (ac u)) fun x=>ab (!(x==0)) (I ((Tm.mk 0 0 oW [] [] []),x)) (ab (decide ((qm:Int)<0)) (I ((Tm.mk 0 0 oW [] [] []),2)) (j6 k (ac t) fun z=>gz k (ac t) (if 1099511627776<qm then 1099511627776 else qm) fun A=>j6 k (ac u) fun B=>ab (decide ((oa .i64 (z+(oa .i64 (A*(oa .i64 (B-1))))):Int)>20000)) (I ((Tm.mk 0 0 oW [] [] []),221)) (gA k (ac t) (if 1099511627776<qm then 1099511627776 else qm) (ac u) 0 0 fun q=>pr.elim q (fun q=>j5 k (ac q) fun E=>ab (decide ((E:Int)>200)) (I ((Tm.mk 0 0 oW [] [] []),62)) (I ((ac q),0))) (fun F=>I ((Tm.mk 0 0 oW [] [] []),F))))))
def HM (k:Nat) (t:Tm) (xw c0:Int) (I:Tm×Int->OS S):OS S:=ab (c0==0) (ab (!(xw==0)) (I ((Tm.mk 0 0 oW [] [] []),xw)) (I ((ac t),xw))) (ab (!(c0==0)) (I ((Tm.mk 0 0 oW [] [] []),c0)) (I ((ac t),c0)))
def za (k:Nat) (t u:Tm) (c0:Int) (I:Tm×Int->OS S):OS S:=aa k (dG k c0) fun r1=>ab (!r1) (I ((Tm.mk 0 0 oW [] [] []),c0)) (aa k (zd k (ac t) 0 (ac u)) fun q=>aa k (HM k (ac q.1) q.2 c0) fun x=>I ((ac x.1),x.2))
def cW (k:Nat) (b:(Br Tm)) (I:Bool->OS S):OS S:=ab ((b.f.length:Int)==1) (nW (af b.f 0) fun x1=>I ((x1.pos==0)&&((x1.neg==0)&&true))) (I false)
def cm (k:Nat) (I:Int->OS S) (s:LB) (q:Int->OS S) (x:Int):OS S:=ab (decide ((x:Int)<(s.length:Int))) (nW (af s x) fun x1=>aa k (cW k x1) fun z=>ab (z) (I x) (q (oa .i64 (x+1)))) (I (-1))
def fk (k:Nat) (I:Int->OS S) (s:LB):Nat->Int->OS S
 |0=>fun _=> .none
 |m+1=>fun q=>cm k I s (fk k I s m) q
def aAn (k:Nat) (I:Int->OS S) (J0:Int->OS S) (s:LB):OS S:=J0 0
def cP (k:Nat) (s:LB) (I:Int->OS S):OS S:=aAn k I (fun q=>fk k I s k q) s
def cS (k:Nat) (l:LB) (I:Int->OS S):OS S:=aa k (cP k l) fun r1=>I r1
def Nu (k:Nat) (I:LC->OS S):OS S:=I [(Cl.mk 0 0)]
def i_ (k:Nat) (s i:Int) (I:Int->OS S):OS S:=aa k (nd k i) fun r1=>ab (!r1) (I (bj .and .u32 s 16777215)) (nW (bR (0<=(oa .u64 i))) fun x2=>I (bj .or .u32 (bj .and .u32 s 16777215) (oa .u32 (1*2^min (zm (oa .u64 i)) 32))))
def JH (k:Nat) (sO:Int) (I:Int->OS S):OS S:=nW (af (ByteArray.mk #[0,1,1,2,1,2,2,3,1,2,2,3,2,3,3,4,1,2,2,3,2,3,3,4,2,3,3,4,3,4,4,5,1,2,2,3,2,3,3,4,2,3,3,4,3,4,4,5,2,3,3,4,3,4,4,5,3,4,4,5,4,5,5,6,1,2,2,3,2,3,3,4,2,3,3,4,3,4,4,5,2,3,3,4,3,4,4,5,3,4,4,5,4,5,5,6,2,3,3,4,3,4,4,5,3,4,4,5,4,5,5,6,3,4,4,5,4,5,5,6,4,5,5,6,5,6,6,7,1,2,2,3,2,3,3,4,2,3,3,4,3,4,4,5,2,3,3,4,3,4,4,5,3,4,4,5,4,5,5,6,2,3,3,4,3,4,4,5,3,4,4,5,4,5,5,6,3,4,4,5,4,5,5,6,4,5,5,6,5,6,6,7,2,3,3,4,3,4,4,5,3,4,4,5,4,5,5,6,3,4,4,5,4,5,5,6,4,5,5,6,5,6,6,7,3,4,4,5,4,5,5,6,4,5,5,6,5,6,6,7,4,5,5,6,5,6,6,7,5,6,6,7,6,7,7,8]).data.toList (Int.fdiv sO (2^min (zm 24) 32))) fun x1=>nW (af (ByteArray.mk #[0,1,1,2,1,2,2,3,1,2,2,3,2,3,3,4,1,2,2,3,2,3,3,4,2,3,3,4,3,4,4,5,1,2,2,3,2,3,3,4,2,3,3,4,3,4,4,5,2,3,3,4,3,4,4,5,3,4,4,5,4,5,5,6,1,2,2,3,2,3,3,4,2,3,3,4,3,4,4,5,2,3,3,4,3,4,4,5,3,4,4,5,4,5,5,6,2,3,3,4,3,4,4,5,3,4,4,5,4,5,5,6,3,4,4,5,4,5,5,6,4,5,5,6,5,6,6,7,1,2,2,3,2,3,3,4,2,3,3,4,3,4,4,5,2,3,3,4,3,4,4,5,3,4,4,5,4,5,5,6,2,3,3,4,3,4,4,5,3,4,4,5,4,5,5,6,3,4,4,5,4,5,5,6,4,5,5,6,5,6,6,7,2,3,3,4,3,4,4,5,3,4,4,5,4,5,5,6,3,4,4,5,4,5,5,6,4,5,5,6,5,6,6,7,3,4,4,5,4,5,5,6,4,5,5,6,5,6,6,7,4,5,5,6,5,6,6,7,5,6,6,7,6,7,7,8]).data.toList (bj .and .u32 (Int.fdiv sO (2^min (zm 16) 32)) 255)) fun x2=>nW (af (ByteArray.mk #[0,1,1,2,1,2,2,3,1,2,2,3,2,3,3,4,1,2,2,3,2,3,3,4,2,3,3,4,3,4,4,5,1,2,2,3,2,3,3,4,2,3,3,4,3,4,4,5,2,3,3,4,3,4,4,5,3,4,4,5,4,5,5,6,1,2,2,3,2,3,3,4,2,3,3,4,3,4,4,5,2,3,3,4,3,4,4,5,3,4,4,5,4,5,5,6,2,3,3,4,3,4,4,5,3,4,4,5,4,5,5,6,3,4,4,5,4,5,5,6,4,5,5,6,5,6,6,7,1,2,2,3,2,3,3,4,2,3,3,4,3,4,4,5,2,3,3,4,3,4,4,5,3,4,4,5,4,5,5,6,2,3,3,4,3,4,4,5,3,4,4,5,4,5,5,6,3,4,4,5,4,5,5,6,4,5,5,6,5,6,6,7,2,3,3,4,3,4,4,5,3,4,4,5,4,5,5,6,3,4,4,5,4,5,5,6,4,5,5,6,5,6,6,7,3,4,4,5,4,5,5,6,4,5,5,6,5,6,6,7,4,5,5,6,5,6,6,7,5,6,6,7,6,7,7,8]).data.toList (bj .and .u32 (Int.fdiv sO (2^min (zm 8) 32)) 255)) fun x3=>nW (af (ByteArray.mk #[0,1,1,2,1,2,2,3,1,2,2,3,2,3,3,4,1,2,2,3,2,3,3,4,2,3,3,4,3,4,4,5,1,2,2,3,2,3,3,4,2,3,3,4,3,4,4,5,2,3,3,4,3,4,4,5,3,4,4,5,4,5,5,6,1,2,2,3,2,3,3,4,2,3,3,4,3,4,4,5,2,3,3,4,3,4,4,5,3,4,4,5,4,5,5,6,2,3,3,4,3,4,4,5,3,4,4,5,4,5,5,6,3,4,4,5,4,5,5,6,4,5,5,6,5,6,6,7,1,2,2,3,2,3,3,4,2,3,3,4,3,4,4,5,2,3,3,4,3,4,4,5,3,4,4,5,4,5,5,6,2,3,3,4,3,4,4,5,3,4,4,5,4,5,5,6,3,4,4,5,4,5,5,6,4,5,5,6,5,6,6,7,2,3,3,4,3,4,4,5,3,4,4,5,4,5,5,6,3,4,4,5,4,5,5,6,4,5,5,6,5,6,6,7,3,4,4,5,4,5,5,6,4,5,5,6,5,6,6,7,4,5,5,6,5,6,6,7,5,6,6,7,6,7,7,8]).data.toList (bj .and .u32 sO 255)) fun x4=>I (oa .i64 (oa .u8 ((oa .u8 ((oa .u8 ((x1.toNat:Int)+(x2.toNat:Int)))+(x3.toNat:Int)))+(x4.toNat:Int))))
def lw (k:Nat) (s:Int) (I:Int->OS S):OS S:=aa k (JH k (bj .and .u32 s 16777215)) fun r1=>I r1
def yE (k:Nat) (i:Int) (I:Bool->OS S):OS S:=aa k (i_ k 0 i) fun r1=>aa k (lw k r1) fun q=>I (q==1)
def DM (k:Nat) (t:Tm) (i:Int) (qT:LC) (I:Int->OS S):OS S:=aa k (Dh k (ac t)) fun r1=>ab (!(r1==0)) (I r1) (aa k (yE k i) fun q=>ab (!q) (I 2) (aa k (hY k qT) fun x=>ab (!x) (I 2) (I 0)))
def DG (k:Nat) (c0:Int) (c1:LC) (I:Unit->OS S):OS S:=I ()
def DH (k:Nat) (c0:Int) (c1:LC) (I:Unit->OS S):OS S:=I ()
def DF (k:Nat) (i:Int) (qT:LC) (I:Int×LC->OS S):OS S:=aa k (DG k i qT) fun r1=>aa k (DH k i qT) fun q=>I (i,qT)
def Mk (k:Nat) (s i:Int) (I:Bool->OS S):OS S:=aa k (nd k i) fun r1=>ab (r1) (nW (bR (0<=(oa .u64 i))) fun x2=>I ((bj .and .u32 (Int.fdiv s (2^min (zm (oa .u64 i)) 32)) 1)==1)) (I false)
def tD (k:Nat) (f:LC) (I:LC->OS S):OS S:=nW (aw 1099511627776 0 f.length) fun x1=>I f
def yK (k:Nat) (i:Int) (I:Bool->OS S):OS S:=aa k (i_ k 0 i) fun r1=>aa k (lw k r1) fun q=>I (q==1)
def tJ (k:Nat) (c:Cl) (I:Cl×Bool->OS S):OS S:=aa k (tB k c) fun r1=>I (c,!r1)
def wW (k:Nat) (I:LC->OS S) (l:LC) (x:Int->(LC)->OS S) (te:Int) (q:LC):OS S:=ab (decide ((te:Int)<(l.length:Int))) (nW (af l te) fun x1=>aa k (tJ k x1) fun z=>ab (z.2) (nW (aw 1099511627776 q.length [z.1].length) fun x3=>x (oa .i64 (te+1)) (q++[z.1])) (x (oa .i64 (te+1)) q)) (I q)
def l8 (k:Nat) (I:LC->OS S) (l:LC):Nat->Int->(LC)->OS S
 |0=>fun _ _=> .none
 |m+1=>fun te q=>wW k I l (l8 k I l m) te q
def HJ (k:Nat) (I:LC->OS S) (J0:Int->(LC)->OS S) (l:LC):OS S:=J0 0 ([]:LC)
def yN (k:Nat) (l:LC) (I:LC->OS S):OS S:=HJ k I (fun te q=>l8 k I l k te q) l
def tI (k:Nat) (f:LC) (I:LC×Int->OS S):OS S:=aa k (hY k f) fun r1=>ab (!r1) (I (([]:LC),2)) (aa k (yN k f) fun x=>aa k (gy k x) fun q=>I (q.1,q.2))
def yO (k:Nat) (b c0:Cl) (I:Cl×Bool->OS S):OS S:=aa k (pb k c0 b) fun r1=>aa k (tJ k r1) fun q=>I (q.1,q.2)
def wV (k:Nat) (I:LC->OS S) (c0:Cl) (l:LC) (x:Int->(LC)->OS S) (te:Int) (q:LC):OS S:=ab (decide ((te:Int)<(l.length:Int))) (nW (af l te) fun x1=>aa k (yO k x1 c0) fun z=>ab (z.2) (nW (aw 1099511627776 q.length [z.1].length) fun x3=>x (oa .i64 (te+1)) (q++[z.1])) (x (oa .i64 (te+1)) q)) (I q)
def p8 (k:Nat) (I:LC->OS S) (c0:Cl) (l:LC):Nat->Int->(LC)->OS S
 |0=>fun _ _=> .none
 |m+1=>fun te q=>wV k I c0 l (p8 k I c0 l m) te q
def HI (k:Nat) (I:LC->OS S) (J0:Int->(LC)->OS S) (l:LC) (c0:Cl):OS S:=J0 0 ([]:LC)
def yM (k:Nat) (l:LC) (c0:Cl) (I:LC->OS S):OS S:=HI k I (fun te q=>p8 k I c0 l k te q) l c0
def wX (k:Nat) (I:LC×Int->OS S) (g f:LC) (x:Int->(LC)->OS S) (zt:Int) (q:LC):OS S:=ab (decide ((zt:Int)<(f.length:Int))) (nW (af f zt) fun x1=>aa k (yM k g x1) fun z=>nW (aw 1099511627776 q.length z.length) fun x3=>x (oa .i64 (zt+1)) (q++z)) (aa k (gy k q) fun A=>I (A.1,A.2))
def p_ (k:Nat) (I:LC×Int->OS S) (g f:LC):Nat->Int->(LC)->OS S
 |0=>fun _ _=> .none
 |m+1=>fun zt q=>wX k I g f (p_ k I g f m) zt q
def HK (k:Nat) (I:LC×Int->OS S) (J0:Int->(LC)->OS S) (f g:LC):OS S:=J0 0 ([]:LC)
def pe (k:Nat) (f g:LC) (I:LC×Int->OS S):OS S:=HK k I (fun zt q=>p_ k I g f k zt q) f g
def yL (k:Nat) (f g:LC) (I:LC×Int->OS S):OS S:=nW (aw 1099511627776 ([]:LC).length f.length) fun x1=>nW (aw 1099511627776 (([]:LC)++f).length g.length) fun x2=>aa k (gy k ((([]:LC)++f)++g)) fun q=>I (q.1,q.2)
def w8 (k:Nat) (I:LC×Int->OS S) (r5:List Int) (x:Int->(LC)->OS S) (Ir:Int) (q:LC):OS S:=ab (decide ((Ir:Int)<(r5.length:Int))) (nW (af r5 Ir) fun x6=>aa k (i_ k 0 x6) fun z=>nW (aw 1099511627776 q.length [(Cl.mk z 0)].length) fun B=>x (oa .i64 (Ir+1)) (q++[(Cl.mk z 0)])) (aa k (gy k q) fun A=>I (A.1,A.2))
def Sy (k:Nat) (I:LC×Int->OS S) (r5:List Int):Nat->Int->(LC)->OS S
 |0=>fun _ _=> .none
 |m+1=>fun Ir q=>w8 k I r5 (Sy k I r5 m) Ir q
def r7 (k:Nat) (I:LC×Int->OS S) (c:Cl) (r1:List Int) (J1:(List Int)->Int->(LC)->OS S) (z:Int->(LC)->OS S) (x:Int) (q:LC):OS S:=ab (decide ((x:Int)<(r1.length:Int))) (nW (af r1 x) fun x2=>aa k (i_ k 0 x2) fun A=>nW (aw 1099511627776 q.length [(Cl.mk 0 A)].length) fun x4=>z (oa .i64 (x+1)) (q++[(Cl.mk 0 A)])) (vz c.neg fun B=>J1 B 0 q)
def qh (k:Nat) (I:LC×Int->OS S) (c:Cl) (r1:List Int):Nat->Int->(LC)->OS S
 |0=>fun _ _=> .none
 |m+1=>fun z x=>r7 k I c r1 (fun A Ir q=>Sy k I A k Ir q) (qh k I c r1 m) z x
def HS (k:Nat) (I:LC×Int->OS S) (J0:(List Int)->Int->(LC)->OS S) (c:Cl):OS S:=vz c.pos fun r1=>J0 r1 0 ([]:LC)
def yV (k:Nat) (c:Cl) (I:LC×Int->OS S):OS S:=HS k I (fun r1 x q=>qh k I c r1 k x q) c
def w7 (k:Nat) (I:LC×Int->OS S) (x1:Cl) (g f:LC) (B:Int) (z:Int->(LC)->OS S) (A:Int->(LC)->OS S) (x:Int) (q:LC):OS S:=ab (decide ((x:Int)<(g.length:Int))) (nW (af g x) fun x2=>aa k (pb k x1 x2) fun E=>nW (aw 1099511627776 q.length [E].length) fun x4=>A (oa .i64 (x+1)) (q++[E])) (z (oa .i64 (B+1)) q)
def nA (k:Nat) (I:LC×Int->OS S) (q:Int->(LC)->OS S) (x1:Cl) (g f:LC) (z:Int):Nat->Int->(LC)->OS S
 |0=>fun _ _=> .none
 |m+1=>fun A x=>w7 k I x1 g f z q (nA k I q x1 g f z m) A x
def hW (k:Nat) (I:LC×Int->OS S) (g f:LC) (J1:Cl->Int->Int->(LC)->OS S) (z:Int->(LC)->OS S) (x:Int) (q:LC):OS S:=ab (decide ((x:Int)<(f.length:Int))) (nW (af f x) fun x1=>J1 x1 x 0 q) (aa k (gy k q) fun A=>I (A.1,A.2))
def lZ (k:Nat) (I:LC×Int->OS S) (g f:LC):Nat->Int->(LC)->OS S
 |0=>fun _ _=> .none
 |m+1=>fun q z=>hW k I g f (fun x1 q A x=>nA k I (lZ k I g f m) x1 g f q k A x) (lZ k I g f m) q z
def HR (k:Nat) (I:LC×Int->OS S) (J0:Int->(LC)->OS S) (f g:LC):OS S:=J0 0 ([]:LC)
def jW (k:Nat) (f g:LC) (I:LC×Int->OS S):OS S:=HR k I (fun x q=>lZ k I g f k x q) f g
def yU (k:Nat) (sU:LC) (c:Cl) (I:LC×Int->OS S):OS S:=aa k (yV k c) fun r1=>ab (!(r1.2==0)) (I (([]:LC),r1.2)) (aa k (jW k sU r1.1) fun q=>I (q.1,q.2))
def b6 (k:Nat) (I:LC×Int->OS S) (l:LC) (x:(LC)->Int->OS S) (v1:LC) (q:Int):OS S:=ab (decide ((q:Int)<(l.length:Int))) (nW (af l q) fun x1=>aa k (yU k v1 x1) fun z=>ab (!(z.2==0)) (I (([]:LC),z.2)) (x z.1 (oa .i64 (q+1)))) (I (v1,0))
def qe (k:Nat) (I:LC×Int->OS S) (l:LC):Nat->(LC)->Int->OS S
 |0=>fun _ _=> .none
 |m+1=>fun v1 q=>b6 k I l (qe k I l m) v1 q
def HP (k:Nat) (I:LC×Int->OS S) (J0:(LC)->Int->OS S) (l ow:LC):OS S:=J0 ow 0
def DP (k:Nat) (l ow:LC) (I:LC×Int->OS S):OS S:=HP k I (fun v1 q=>qe k I l k v1 q) l ow
def ph (k:Nat) (f:LC) (I:LC×Int->OS S):OS S:=aa k (Nu k) fun r1=>aa k (DP k f r1) fun q=>I (q.1,q.2)
def yQ (k:Nat) (f:LC) (I:LC×Int->OS S):OS S:=aa k (pi k [f]) fun r1=>ab (!(r1==0)) (I (([]:LC),r1)) (aa k (ph k f) fun q=>I (q.1,q.2))
def yI (k:Nat) (f:LC) (I:LC×Int->OS S):OS S:=aa k (yQ k f) fun r1=>ab (!(r1.2==0)) (I (([]:LC),r1.2)) (aa k (tI k r1.1) fun q=>I (q.1,q.2))
def wU (k:Nat) (I:LC×Int->OS S) (i:Int) (qT f:LC) (A:Int) (B:LC) (q:Int->(LC)->OS S) (g11:LC) (x:Int):OS S:=ab (x==0) (aa k (yL k B g11) fun z=>ab (!(z.2==0)) (I (([]:LC),z.2)) (q (oa .i64 (A+1)) z.1)) (ab (!(x==0)) (I (([]:LC),x)) (q (oa .i64 (A+1)) B))
def kq (k:Nat) (I:LC×Int->OS S) (q:Int->(LC)->OS S) (i:Int) (qT f:LC) (x:Int) (A:LC):Nat->(LC)->Int->OS S
 |0=>fun _ _=> .none
 |_+1=>fun g11 z=>wU k I i qT f x A q g11 z
def qL (k:Nat) (I:LC×Int->OS S) (i:Int) (qT f:LC) (J1:Int->(LC)->(LC)->Int->OS S) (J:Int->(LC)->OS S) (q:Int) (z:LC):OS S:=ab (decide ((q:Int)<(f.length:Int))) (nW (af f q) fun x4=>aa k (jX k x4.pos i) fun A=>aa k (jX k x4.neg i) fun B=>aa k (Mk k x4.pos i) fun M=>ab (M) (aa k (tI k qT) fun E=>ab (E.2==0) (aa k (pe k [(Cl.mk A B)] E.1) fun L=>J1 q z L.1 L.2) (J1 q z [(Cl.mk A B)] E.2)) (aa k (Mk k x4.neg i) fun F=>ab (F) (aa k (yI k qT) fun x=>ab (x.2==0) (aa k (pe k [(Cl.mk A B)] x.1) fun r13=>J1 q z r13.1 r13.2) (J1 q z [(Cl.mk A B)] x.2)) (J1 q z [(Cl.mk A B)] 0))) (I (z,0))
def lY (k:Nat) (I:LC×Int->OS S) (i:Int) (qT f:LC):Nat->Int->(LC)->OS S
 |0=>fun _ _=> .none
 |m+1=>fun q x=>qL k I i qT f (fun q x g11 z=>kq k I (lY k I i qT f m) i qT f q x k g11 z) (lY k I i qT f m) q x
def HH (k:Nat) (I:LC×Int->OS S) (J0:Int->(LC)->OS S) (f:LC) (i:Int) (qT:LC):OS S:=aa k (pd k f) fun r1=>ab (!r1) (I (([]:LC),2)) (aa k (yK k i) fun q=>ab (!q) (I (([]:LC),2)) (aa k (hY k qT) fun x=>ab (!x) (I (([]:LC),2)) (J0 0 [])))
def yJ (k:Nat) (f:LC) (i:Int) (qT:LC) (I:LC×Int->OS S):OS S:=HH k I (fun q x=>lY k I i qT f k q x) f i qT
def tF (k:Nat) (f:LC) (depth c0:Int) (c1:LC) (I:LC×Int->OS S):OS S:=aa k (pg k f) fun r1=>aa k (Mk k r1 (oa .i64 (c0+depth))) fun z=>ab (!z) (aa k (tD k f) fun A=>I (A,0)) (aa k (jV k c1 0 depth) fun q=>ab (!(q.2==0)) (I (([]:LC),q.2)) (aa k (yJ k f (oa .i64 (c0+depth)) q.1) fun x=>I (x.1,x.2)))
def yP (k:Nat) (i:Int) (I:LC×Int->OS S):OS S:=aa k (i_ k 0 i) fun r1=>aa k (lw k r1) fun q=>ab (q==0) (I (([]:LC),2)) (aa k (i_ k 0 i) fun x=>I ([(Cl.mk x 0)],0))
def na (k:Nat) (f g:LC) (I:LC×Int->OS S):OS S:=nW (aw 1099511627776 ([]:LC).length f.length) fun x1=>nW (aw 1099511627776 (([]:LC)++f).length g.length) fun x2=>aa k (gy k ((([]:LC)++f)++g)) fun q=>I (q.1,q.2)
def yS (k:Nat) (sU:LC) (c:Cl) (c0:Int) (c1:LC) (I:LC×Int->OS S):OS S:=aa k (jX k c.pos c0) fun r1=>aa k (jX k c.neg c0) fun A=>aa k (Mk k c.pos c0) fun M=>ab (M) (aa k (jW k [(Cl.mk r1 A)] c1) fun z=>ab (!(z.2==0)) (I (([]:LC),z.2)) (aa k (Mk k c.neg c0) fun O=>ab (O) (aa k (ph k c1) fun B=>ab (!(B.2==0)) (I (([]:LC),B.2)) (aa k (jW k z.1 B.1) fun E=>ab (!(E.2==0)) (I (([]:LC),E.2)) (aa k (na k sU E.1) fun J=>I (J.1,J.2)))) (aa k (na k sU z.1) fun L=>I (L.1,L.2)))) (aa k (Mk k c.neg c0) fun F=>ab (F) (aa k (ph k c1) fun q=>ab (!(q.2==0)) (I (([]:LC),q.2)) (aa k (jW k [(Cl.mk r1 A)] q.1) fun x=>ab (!(x.2==0)) (I (([]:LC),x.2)) (aa k (na k sU x.1) fun r13=>I (r13.1,r13.2)))) (aa k (na k sU [(Cl.mk r1 A)]) fun r14=>I (r14.1,r14.2)))
def wZ (k:Nat) (I:LC×Int->OS S) (c0:Int) (c1 l:LC) (x:(LC)->Int->OS S) (v1:LC) (q:Int):OS S:=ab (decide ((q:Int)<(l.length:Int))) (nW (af l q) fun x1=>aa k (yS k v1 x1 c0 c1) fun z=>ab (!(z.2==0)) (I (([]:LC),z.2)) (x z.1 (oa .i64 (q+1)))) (I (v1,0))
def qc (k:Nat) (I:LC×Int->OS S) (c0:Int) (c1 l:LC):Nat->(LC)->Int->OS S
 |0=>fun _ _=> .none
 |m+1=>fun v1 q=>wZ k I c0 c1 l (qc k I c0 c1 l m) v1 q
def HO (k:Nat) (I:LC×Int->OS S) (J0:(LC)->Int->OS S) (l ow:LC) (c0:Int) (c1:LC):OS S:=J0 ow 0
def DO (k:Nat) (l ow:LC) (c0:Int) (c1:LC) (I:LC×Int->OS S):OS S:=HO k I (fun v1 q=>qc k I c0 c1 l k v1 q) l ow c0 c1
def yR (k:Nat) (f:LC) (i:Int) (qT:LC) (I:LC×Int->OS S):OS S:=aa k (pi k [f,qT]) fun r1=>ab (!(r1==0)) (I (([]:LC),r1)) (aa k (yP k i) fun q=>ab (!(q.2==0)) (I (([]:LC),q.2)) (aa k (tK k) fun z=>aa k (DO k f z i qT) fun x=>I (x.1,x.2)))
def yF (k:Nat) (f:LC) (depth c0:Int) (c1:LC) (I:LC×Int->OS S):OS S:=aa k (pg k f) fun r1=>aa k (Mk k r1 (oa .i64 (c0+depth))) fun z=>ab (!z) (aa k (tD k f) fun A=>I (A,0)) (aa k (jV k c1 0 depth) fun q=>ab (!(q.2==0)) (I (([]:LC),q.2)) (aa k (yR k f (oa .i64 (c0+depth)) q.1) fun x=>I (x.1,x.2)))
def yG (k:Nat) (t:Tm) (depth c0:Int) (c1:LC) (I:LC×Int->OS S):OS S:=ab (t.k==14) (aa k (tF k t.r depth c0 c1) fun r1=>I (r1.1,r1.2)) (aa k (yF k t.r depth c0 c1) fun q=>I (q.1,q.2))
def tG (k:Nat) (i:Int) (c0:Tm) (I:Int->OS S):OS S:=aa k (gI k c0.k i) fun r1=>I r1.2
def tH (k:Nat) (p c0:Int) (I:Int->OS S):OS S:=I c0
abbrev c8 (S:Type):=Tm->Int->Int->(LC)->(Tm×Int->OS S)->OS S
def wQ (hd:c8 S) (k:Nat) (I:LT×Int->OS S) (c0:Int) (c1:LC) (c4:Int) (l:LT) (depth:Int) (x:(LT)->Int->OS S) (q:LT) (ov:Int):OS S:=ab (decide ((ov:Int)<(l.length:Int))) (nW (af l ov) fun x1=>aa k (tH k ov c4) fun A=>hd (ac x1) (oa .i64 (depth+A)) c0 c1 fun z=>ab (!(z.2==0)) (I (([]:LT),z.2)) (nW (aw 1099511627776 q.length [(ac z.1)].length) fun x4=>x (q++[(ac z.1)]) (oa .i64 (ov+1)))) (I (q,0))
def lW (hd:c8 S) (k:Nat) (I:LT×Int->OS S) (c0:Int) (c1:LC) (c4:Int) (l:LT) (depth:Int):Nat->(LT)->Int->OS S
 |0=>fun _ _=> .none
 |m+1=>fun q ov=>wQ hd k I c0 c1 c4 l depth (lW hd k I c0 c1 c4 l depth m) q ov
def HB (hd:c8 S) (k:Nat) (I:LT×Int->OS S) (J0:(LT)->Int->OS S) (l:LT) (depth c0:Int) (c1:LC) (c4:Int):OS S:=J0 ([]:LT) 0
def DK (hd:c8 S) (k:Nat) (l:LT) (depth c0:Int) (c1:LC) (c4:Int) (I:LT×Int->OS S):OS S:=HB hd k I (fun q ov=>lW hd k I c0 c1 c4 l depth k q ov) l depth c0 c1 c4
def wR (hd:c8 S) (k:Nat) (I:LT×Int->OS S) (c0:Int) (c1:LC) (c4:Tm) (l:LT) (depth:Int) (x:(LT)->Int->OS S) (q:LT) (ov:Int):OS S:=ab (decide ((ov:Int)<(l.length:Int))) (nW (af l ov) fun x1=>aa k (tG k ov (ac c4)) fun A=>hd (ac x1) (oa .i64 (depth+A)) c0 c1 fun z=>ab (!(z.2==0)) (I (([]:LT),z.2)) (nW (aw 1099511627776 q.length [(ac z.1)].length) fun x4=>x (q++[(ac z.1)]) (oa .i64 (ov+1)))) (I (q,0))
def lX (hd:c8 S) (k:Nat) (I:LT×Int->OS S) (c0:Int) (c1:LC) (c4:Tm) (l:LT) (depth:Int):Nat->(LT)->Int->OS S
 |0=>fun _ _=> .none
 |m+1=>fun q ov=>wR hd k I c0 c1 c4 l depth (lX hd k I c0 c1 c4 l depth m) q ov
def HC (hd:c8 S) (k:Nat) (I:LT×Int->OS S) (J0:(LT)->Int->OS S) (l:LT) (depth c0:Int) (c1:LC) (c4:Tm):OS S:=J0 ([]:LT) 0
def DL (hd:c8 S) (k:Nat) (l:LT) (depth c0:Int) (c1:LC) (c4:Tm) (I:LT×Int->OS S):OS S:=HC hd k I (fun q ov=>lX hd k I c0 c1 c4 l depth k q ov) l depth c0 c1 c4
def wS (hd:c8 S) (k:Nat) (I:Tm×Int->OS S) (c0:Int) (c1:LC) (t:Tm) (r1:LC×Int) (r2:LT×Int) (depth:Int) (x:Int->(LB)->Int->OS S) (z:Int) (q:LB) (v55:Int):OS S:=ab (decide ((v55:Int)<(t.s.length:Int))) (nW (af t.s v55) fun x3=>aa k (tF k x3.f depth c0 c1) fun A=>ab (!(A.2==0)) (I ((Tm.mk 0 0 oW [] [] []),A.2)) (ab ((A.1.length:Int)==0) (x z q (oa .i64 (v55+1))) (aa k (DK hd k x3.c depth c0 c1 z) fun B=>ab (!(B.2==0)) (I ((Tm.mk 0 0 oW [] [] []),B.2)) (nW (aw 1099511627776 q.length [(Br.mk A.1 B.1)].length) fun x6=>x z (q++[(Br.mk A.1 B.1)]) (oa .i64 (v55+1)))))) (I ((Tm.mk t.k t.n t.name r1.1 r2.1 q),0))
def fV (hd:c8 S) (k:Nat) (I:Tm×Int->OS S) (c0:Int) (c1:LC) (t:Tm) (r1:LC×Int) (r2:LT×Int) (depth:Int):Nat->Int->(LB)->Int->OS S
 |0=>fun _ _ _=> .none
 |m+1=>fun x q v55=>wS hd k I c0 c1 t r1 r2 depth (fV hd k I c0 c1 t r1 r2 depth m) x q v55
def HF (hd:c8 S) (k:Nat) (I:Tm×Int->OS S) (J0:(LC×Int)->(LT×Int)->Int->(LB)->Int->OS S) (t:Tm) (depth c0:Int) (c1:LC):OS S:=aa k (yG k (ac t) depth c0 c1) fun r1=>ab (!(r1.2==0)) (I ((Tm.mk 0 0 oW [] [] []),r1.2)) (aa k (DL hd k t.c depth c0 c1 (ac t)) fun q=>ab (!(q.2==0)) (I ((Tm.mk 0 0 oW [] [] []),q.2)) (ab (t.k==15) (J0 r1 q 1 ([]:LB) 0) (J0 r1 q 0 ([]:LB) 0)))
def d7:Nat->Tm->Int->Int->(LC)->(Tm×Int->OS S)->OS S
 |0=>fun _ _ _ _ _=> .none
 |k+1=>fun t depth c0 c1 I=>HF (d7 k) k I (fun r1 z x q v55=>fV (d7 k) k I c0 c1 t r1 z depth k x q v55) t depth c0 c1
def DE (k:Nat) (i:Int) (I:Int->OS S):OS S:=I i
def pk (k:Nat) (s i:Int) (I:Int->OS S):OS S:=aa k (nd k i) fun r1=>ab (!r1) (I (bj .and .u32 s 16777215)) (aa k (pn k i) fun q=>nW (bR (0<=(oa .u64 (oa .i64 (i+1))))) fun x3=>nW (bR (0<=(oa .u64 i))) fun x4=>I (bj .or .u32 (bj .and .u32 (bj .and .u32 s 16777215) q) (oa .u32 ((Int.fdiv (bj .and .u32 s 16777215) (2^min (zm (oa .u64 (oa .i64 (i+1)))) 32))*2^min (zm (oa .u64 i)) 32))))
def wN (k:Nat) (I:LC×Int->OS S) (c0 depth:Int) (f:LC) (x:Int->(LC)->OS S) (te:Int) (q:LC):OS S:=ab (decide ((te:Int)<(f.length:Int))) (nW (af f te) fun x1=>aa k (pk k x1.pos (oa .i64 (c0+depth))) fun z=>aa k (pk k x1.neg (oa .i64 (c0+depth))) fun A=>nW (aw 1099511627776 q.length [(Cl.mk z A)].length) fun x4=>x (oa .i64 (te+1)) (q++[(Cl.mk z A)])) (aa k (gy k q) fun B=>I (B.1,B.2))
def jw (k:Nat) (I:LC×Int->OS S) (c0 depth:Int) (f:LC):Nat->Int->(LC)->OS S
 |0=>fun _ _=> .none
 |m+1=>fun te q=>wN k I c0 depth f (jw k I c0 depth f m) te q
def Hx (k:Nat) (I:LC×Int->OS S) (J0:Int->(LC)->OS S) (f:LC) (depth c0:Int):OS S:=J0 0 ([]:LC)
def pc (k:Nat) (f:LC) (depth c0:Int) (I:LC×Int->OS S):OS S:=Hx k I (fun te q=>jw k I c0 depth f k te q) f depth c0
def yH (k:Nat) (t:Tm) (depth c0:Int) (I:LC×Int->OS S):OS S:=ab (t.k==14) (aa k (pc k t.r depth c0) fun r1=>I (r1.1,r1.2)) (aa k (pc k t.r depth c0) fun q=>I (q.1,q.2))
abbrev c_ (S:Type):=Tm->Int->Int->(Tm×Int->OS S)->OS S
def wO (hd:c_ S) (k:Nat) (I:LT×Int->OS S) (c0 c1:Int) (l:LT) (depth:Int) (x:(LT)->Int->OS S) (q:LT) (ov:Int):OS S:=ab (decide ((ov:Int)<(l.length:Int))) (nW (af l ov) fun x1=>aa k (tH k ov c1) fun A=>hd (ac x1) (oa .i64 (depth+A)) c0 fun z=>ab (!(z.2==0)) (I (([]:LT),z.2)) (nW (aw 1099511627776 q.length [(ac z.1)].length) fun x4=>x (q++[(ac z.1)]) (oa .i64 (ov+1)))) (I (q,0))
def lU (hd:c_ S) (k:Nat) (I:LT×Int->OS S) (c0 c1:Int) (l:LT) (depth:Int):Nat->(LT)->Int->OS S
 |0=>fun _ _=> .none
 |m+1=>fun q ov=>wO hd k I c0 c1 l depth (lU hd k I c0 c1 l depth m) q ov
def Hz (hd:c_ S) (k:Nat) (I:LT×Int->OS S) (J0:(LT)->Int->OS S) (l:LT) (depth c0 c1:Int):OS S:=J0 ([]:LT) 0
def DI (hd:c_ S) (k:Nat) (l:LT) (depth c0 c1:Int) (I:LT×Int->OS S):OS S:=Hz hd k I (fun q ov=>lU hd k I c0 c1 l depth k q ov) l depth c0 c1
def wP (hd:c_ S) (k:Nat) (I:LT×Int->OS S) (c0:Int) (c1:Tm) (l:LT) (depth:Int) (x:(LT)->Int->OS S) (q:LT) (ov:Int):OS S:=ab (decide ((ov:Int)<(l.length:Int))) (nW (af l ov) fun x1=>aa k (tG k ov (ac c1)) fun A=>hd (ac x1) (oa .i64 (depth+A)) c0 fun z=>ab (!(z.2==0)) (I (([]:LT),z.2)) (nW (aw 1099511627776 q.length [(ac z.1)].length) fun x4=>x (q++[(ac z.1)]) (oa .i64 (ov+1)))) (I (q,0))
def lV (hd:c_ S) (k:Nat) (I:LT×Int->OS S) (c0:Int) (c1:Tm) (l:LT) (depth:Int):Nat->(LT)->Int->OS S
 |0=>fun _ _=> .none
 |m+1=>fun q ov=>wP hd k I c0 c1 l depth (lV hd k I c0 c1 l depth m) q ov
def HA (hd:c_ S) (k:Nat) (I:LT×Int->OS S) (J0:(LT)->Int->OS S) (l:LT) (depth c0:Int) (c1:Tm):OS S:=J0 ([]:LT) 0
def DJ (hd:c_ S) (k:Nat) (l:LT) (depth c0:Int) (c1:Tm) (I:LT×Int->OS S):OS S:=HA hd k I (fun q ov=>lV hd k I c0 c1 l depth k q ov) l depth c0 c1
def wT (hd:c_ S) (k:Nat) (I:Tm×Int->OS S) (c0:Int) (t:Tm) (r1:LC×Int) (r2:LT×Int) (depth:Int) (x:Int->(LB)->Int->OS S) (z:Int) (q:LB) (v55:Int):OS S:=ab (decide ((v55:Int)<(t.s.length:Int))) (nW (af t.s v55) fun x3=>aa k (pc k x3.f depth c0) fun A=>ab (!(A.2==0)) (I ((Tm.mk 0 0 oW [] [] []),A.2)) (ab ((A.1.length:Int)==0) (x z q (oa .i64 (v55+1))) (aa k (DI hd k x3.c depth c0 z) fun B=>ab (!(B.2==0)) (I ((Tm.mk 0 0 oW [] [] []),B.2)) (nW (aw 1099511627776 q.length [(Br.mk A.1 B.1)].length) fun x6=>x z (q++[(Br.mk A.1 B.1)]) (oa .i64 (v55+1)))))) (I ((Tm.mk t.k t.n t.name r1.1 r2.1 q),0))
def L0 (hd:c_ S) (k:Nat) (I:Tm×Int->OS S) (c0:Int) (t:Tm) (r1:LC×Int) (r2:LT×Int) (depth:Int):Nat->Int->(LB)->Int->OS S
 |0=>fun _ _ _=> .none
 |m+1=>fun x q v55=>wT hd k I c0 t r1 r2 depth (L0 hd k I c0 t r1 r2 depth m) x q v55
def HG (hd:c_ S) (k:Nat) (I:Tm×Int->OS S) (J0:(LC×Int)->(LT×Int)->Int->(LB)->Int->OS S) (t:Tm) (depth c0:Int):OS S:=aa k (yH k (ac t) depth c0) fun r1=>ab (!(r1.2==0)) (I ((Tm.mk 0 0 oW [] [] []),r1.2)) (aa k (DJ hd k t.c depth c0 (ac t)) fun q=>ab (!(q.2==0)) (I ((Tm.mk 0 0 oW [] [] []),q.2)) (ab (t.k==15) (J0 r1 q 1 ([]:LB) 0) (J0 r1 q 0 ([]:LB) 0)))
def dT:Nat->Tm->Int->Int->(Tm×Int->OS S)->OS S
 |0=>fun _ _ _ _=> .none
 |k+1=>fun t depth c0 I=>HG (dT k) k I (fun r1 z x q v55=>L0 (dT k) k I c0 t r1 z depth k x q v55) t depth c0
def m_ (k:Nat) (t:Tm) (i:Int) (qT:LC) (I:Tm×Int->OS S):OS S:=aa k (DM k (ac t) i qT) fun r1=>ab (!(r1==0)) (I ((Tm.mk 0 0 oW [] [] []),r1)) (aa k (jV k qT i 1) fun q=>ab (!(q.2==0)) (I ((Tm.mk 0 0 oW [] [] []),q.2)) (aa k (DF k i q.1) fun z=>d7 k (ac t) 0 z.1 z.2 fun x=>ab (!(x.2==0)) (I ((Tm.mk 0 0 oW [] [] []),x.2)) (aa k (DE k i) fun B=>dT k (ac x.1) 0 B fun A=>I ((ac A.1),A.2))))
def JL (k:Nat) (t:Tm) (qT:LC) (c0:Int) (I:Tm×Int->OS S):OS S:=aa k (dG k c0) fun r1=>ab (!r1) (I ((Tm.mk 0 0 oW [] [] []),c0)) (aa k (m_ k (ac t) 0 qT) fun q=>aa k (HM k (ac q.1) q.2 c0) fun x=>I ((ac x.1),x.2))
def JI (k:Nat) (t:Tm) (c0:Int) (I:Tm×Int->OS S):OS S:=aa k (Nu k) fun r1=>aa k (JL k (ac t) r1 c0) fun q=>I ((ac q.1),q.2)
def zc (k:Nat) (kind:Int) (kids:LT) (I:Int×Int×BA×LT->OS S):OS S:=I (kind,0,oW,kids)
def aJ (k:Nat) (t:Tm) (c0:Int) (I:Tm×Bool×Int->OS S):OS S:=aa k (cS k t.s) fun r1=>ab (decide ((r1:Int)<0)) (I ((Tm.mk 0 0 oW [] [] []),false,c0)) (nW (af t.s r1) fun x2=>ab (t.k==15) (nW (af x2.c 0) fun x3=>aa k (JI k (ac x3) c0) fun A=>I ((ac A.1),true,A.2)) (ab (t.k==18) (nW (af x2.c 0) fun x5=>aa k (zc k 9 [(ac x5)]) fun q=>nW (af t.c 0) fun B=>aa k (zc k 6 [(Tm.mk q.1 q.2.1 q.2.2.1 [] q.2.2.2 []),(ac B)]) fun x=>I ((Tm.mk x.1 x.2.1 x.2.2.1 [] x.2.2.2 []),true,c0)) (ab (t.k==16) (nW (af x2.c 0) fun E=>I ((ac E),true,c0)) (ab (t.k==17) (nW (af x2.c 0) fun z=>I ((ac z),true,c0)) (I ((Tm.mk 0 0 oW [] [] []),false,c0))))))
def aW (k:Nat) (qT:LC) (I:Int->OS S):OS S:=ab ((qT.length:Int)==0) (I 0) (ab ((qT.length:Int)==1) (nW (af qT 0) fun x1=>ab ((x1.pos==0)&&((x1.neg==0)&&true)) (I 1) (I (-1))) (I (-1)))
def cA (k:Nat) (t:Tm) (c0:Int) (I:Tm×Bool×Int->OS S):OS S:=aa k (aW k t.r) fun r1=>ab (decide ((r1:Int)>=0)) (nW (af t.c (oa .i64 (1+r1))) fun x2=>I ((ac x2),true,c0)) (nW (af t.c 0) fun x3=>ab (x3.k==12) (nW (af t.c 0) fun x4=>nW (af x4.c 0) fun x5=>aa k (JL k (ac x5) t.r c0) fun q=>I ((ac q.1),true,q.2)) (I ((Tm.mk 0 0 oW [] [] []),false,c0)))
def bA (k:Nat) (t:Tm) (I:Tm×Bool->OS S):OS S:=aa k (aW k t.r) fun r1=>ab (decide ((r1:Int)<0)) (I ((Tm.mk 0 0 oW [] [] []),false)) (ab (t.k==21) (aa k (zc k 20 ([]:LT)) fun q=>I ((Tm.mk q.1 q.2.1 q.2.2.1 [] q.2.2.2 []),true)) (ab (r1==0) (aa k (zc k 24 ([]:LT)) fun x=>I ((Tm.mk x.1 x.2.1 x.2.2.1 [] x.2.2.2 []),true)) (aa k (zc k 25 ([]:LT)) fun z=>I ((Tm.mk z.1 z.2.1 z.2.2.1 [] z.2.2.2 []),true))))
def tO (k:Nat) (kind:Int) (qT:LC) (kids:LT) (I:Int×Int×BA×LC×LT->OS S):OS S:=I (kind,0,oW,qT,kids)
def bz (k:Nat) (t:Tm) (I:Tm×Bool->OS S):OS S:=nW (af t.c 3) fun x1=>ab (x1.k==20) (nW (af t.c 1) fun x2=>I ((ac x2),true)) (ab (x1.k==21) (nW (af t.c 2) fun x3=>nW (af t.c 1) fun x4=>nW (af t.c 1) fun x5=>aa k (tO k 13 x1.r [(ac x3),(ac x4),(ac x5)]) fun q=>I ((Tm.mk q.1 q.2.1 q.2.2.1 q.2.2.2.1 q.2.2.2.2 []),true)) (I ((Tm.mk 0 0 oW [] [] []),false)))
def b2 (k:Nat) (t:Tm) (I:Tm×Bool->OS S):OS S:=nW (af t.c 4) fun x1=>ab (x1.k==24) (nW (af t.c 1) fun x2=>I ((ac x2),true)) (ab (x1.k==25) (nW (af t.c 2) fun x3=>I ((ac x3),true)) (ab (x1.k==26) (nW (af t.c 3) fun x4=>nW (af x1.c 0) fun x5=>aa k (zc k 6 [(ac x4),(ac x5)]) fun x=>nW (af t.c 1) fun z=>nW (af t.c 2) fun A=>aa k (tO k 13 x1.r [(Tm.mk x.1 x.2.1 x.2.2.1 [] x.2.2.2 []),(ac z),(ac A)]) fun q=>I ((Tm.mk q.1 q.2.1 q.2.2.1 q.2.2.2.1 q.2.2.2.2 []),true)) (I ((Tm.mk 0 0 oW [] [] []),false))))
def cD (k:Nat) (t:Tm) (c0:Int) (I:Tm×Bool×Int->OS S):OS S:=ab (t.k==6) (nW (af t.c 0) fun x1=>ab (x1.k==5) (nW (af t.c 0) fun x2=>nW (af x2.c 0) fun x3=>nW (af t.c 1) fun x4=>aa k (za k (ac x3) (ac x4) c0) fun r5=>I ((ac r5.1),true,r5.2)) (aa k (aJ k (ac t) c0) fun M=>I ((ac M.1),M.2.1,M.2.2))) (ab (t.k==9) (nW (af t.c 0) fun x7=>ab (x7.k==8) (nW (af t.c 0) fun x8=>nW (af x8.c (oa .i64 (t.k-9))) fun x9=>I ((ac x9),true,c0)) (aa k (aJ k (ac t) c0) fun x=>I ((ac x.1),x.2.1,x.2.2))) (ab (t.k==10) (nW (af t.c 0) fun O=>ab (O.k==8) (nW (af t.c 0) fun T=>nW (af T.c (oa .i64 (t.k-9))) fun W=>I ((ac W),true,c0)) (aa k (aJ k (ac t) c0) fun r14=>I ((ac r14.1),r14.2.1,r14.2.2))) (ab (t.k==13) (aa k (cA k (ac t) c0) fun z=>I ((ac z.1),z.2.1,z.2.2)) (ab (t.k==21) (aa k (bA k (ac t)) fun E=>I ((ac E.1),E.2,c0)) (ab (t.k==26) (aa k (bA k (ac t)) fun F=>I ((ac F.1),F.2,c0)) (ab (t.k==22) (aa k (bz k (ac t)) fun J=>I ((ac J.1),J.2,c0)) (ab (t.k==27) (aa k (b2 k (ac t)) fun L=>I ((ac L.1),L.2,c0)) (ab (t.k==28) (nW (af t.c 0) fun Y=>I ((ac Y),true,c0)) (ab (t.k==14) (nW (af t.c 1) fun ad=>aa k (aW k t.r) fun ao=>I ((ac ad),ao==1,c0)) (ab (t.k==18) (aa k (aJ k (ac t) c0) fun q=>ab (q.2.1) (I ((ac q.1),true,q.2.2)) (nW (af t.c 0) fun ax=>ab (ax.k==17) (nW (af t.c 0) fun az=>nW (af az.c 0) fun a6=>I ((ac a6),true,q.2.2)) (aa k (aJ k (ac t) q.2.2) fun A=>I ((ac A.1),A.2.1,A.2.2)))) (aa k (aJ k (ac t) c0) fun B=>I ((ac B.1),B.2.1,B.2.2))))))))))))
def ly (k:Nat) (t:Tm) (c0:Int) (I:Tm×Bool×Int×Int->OS S):OS S:=aa k (Dh k (ac t)) fun r1=>aa k (HM k (ac t) r1 c0) fun q=>dJ k (ac q.1) fun x=>aa k (dG k q.2) fun z=>I ((ac x),z,q.2,q.2)
def H9 (k:Nat) (t:Tm) (I:Tm×Bool×Int->OS S):OS S:=aa k (Dh k (ac t)) fun r1=>ab (!(r1==0)) (I ((Tm.mk 0 0 oW [] [] []),false,r1)) (dJ k (ac t) fun z=>aa k (cD k (ac z) 0) fun q=>ab (!q.2.1) (I ((Tm.mk 0 0 oW [] [] []),false,0)) (aa k (ly k (ac q.1) q.2.2) fun x=>I ((ac x.1),x.2.1,x.2.2.1)))
def k2 (k:Nat) (t:Tm) (vars nP:Int) (I:Int->OS S):OS S:=ab (decide ((vars:Int)<0)) (I 2) (ab (decide ((nP:Int)<0)) (I 2) (ab (decide ((nP:Int)>24)) (I 2) (aa k (zD k (ac t)) fun r1=>ab (!(r1==0)) (I r1) (KW k (ac t) vars nP true fun q=>ab (!q) (I 100) (I 0)))))
def cr (k:Nat) (I:Tm×Bool->OS S) (t:Tm) (defs:List Df) (x:Int->OS S) (q:Int):OS S:=ab (decide ((q:Int)<(defs.length:Int))) (nW (af defs q) fun x1=>ab (x1.name==t.name) (dJ k (ac x1.body) fun z=>aa k (k2 k (ac x1.body) 0 0) fun A=>I ((ac z),A==0)) (x (oa .i64 (q+1)))) (I ((Tm.mk 0 0 oW [] [] []),false))
def bM (k:Nat) (I:Tm×Bool->OS S) (t:Tm) (defs:List Df):Nat->Int->OS S
 |0=>fun _=> .none
 |m+1=>fun q=>cr k I t defs (bM k I t defs m) q
def aAq (k:Nat) (I:Tm×Bool->OS S) (J0:Int->OS S) (defs:List Df) (t:Tm):OS S:=ab (!(t.k==2)) (I ((Tm.mk 0 0 oW [] [] []),false)) (J0 0)
def cR (k:Nat) (defs:List Df) (t:Tm) (I:Tm×Bool->OS S):OS S:=aAq k I (fun q=>bM k I t defs k q) defs t
def wq (k:Nat) (kind:Int) (kids:LT) (I:Int×Int×BA×LT->OS S):OS S:=I (kind,0,oW,kids)
def bF (k:Nat) (sys:LB) (I:Int×Int×BA×LT×LB->OS S):OS S:=aa k (wq k 3 ([]:LT)) fun r1=>aa k (wq k 3 ([]:LT)) fun q=>I (15,0,oW,[(Tm.mk r1.1 r1.2.1 r1.2.2.1 [] r1.2.2.2 []),(Tm.mk q.1 q.2.1 q.2.2.1 [] q.2.2.2 [])],sys)
def iZ (k:Nat) (xw c0:Int) (I:Int->OS S):OS S:=ab (c0==0) (I xw) (I c0)
def wL (k:Nat) (I:Int->OS S) (l:LT) (q:Int->Int->OS S) (x qk:Int):OS S:=ab (decide ((qk:Int)<(l.length:Int))) (nW (af l qk) fun x1=>aa k (Dh k (ac x1)) fun z=>aa k (iZ k z x) fun A=>q A (oa .i64 (qk+1))) (I x)
def pY (k:Nat) (I:Int->OS S) (l:LT):Nat->Int->Int->OS S
 |0=>fun _ _=> .none
 |m+1=>fun q qk=>wL k I l (pY k I l m) q qk
def Hs (k:Nat) (I:Int->OS S) (J0:Int->Int->OS S) (l:LT):OS S:=J0 0 0
def m9 (k:Nat) (l:LT) (I:Int->OS S):OS S:=Hs k I (fun q qk=>pY k I l k q qk) l
def de (k:Nat) (c0:Int) (I:Bool->OS S):OS S:=I (c0==0)
def Bx (k:Nat) (t:Tm) (vars nP c0:Int) (I:Tm×Int->OS S):OS S:=aa k (de k c0) fun r1=>ab (!r1) (I ((Tm.mk 0 0 oW [] [] []),c0)) (aa k (lu k (ac t) vars nP) fun q=>aa k (iZ k q.2 c0) fun x=>I ((ac q.1),x))
def eQ (k:Nat) (t:Tm) (c0:Int) (I:Tm×Int×Int->OS S):OS S:=aa k (de k c0) fun r1=>ab (r1) (aa k (Dh k (ac t)) fun x=>aa k (iZ k x c0) fun q=>aa k (de k q) fun z=>ab (!z) (I ((Tm.mk 0 0 oW [] [] []),q,q)) (I ((ac t),0,q))) (aa k (de k c0) fun A=>ab (!A) (I ((Tm.mk 0 0 oW [] [] []),c0,c0)) (I ((ac t),0,c0)))
def tA (k:Nat) (f:LC) (c0:Int) (I:LC×Int->OS S):OS S:=aa k (de k c0) fun r1=>ab (!r1) (I (([]:LC),c0)) (aa k (jV k f 0 1) fun q=>aa k (iZ k q.2 c0) fun x=>I (q.1,x))
def yX (k:Nat) (c0:Int) (c1:Tm) (c2:Int) (I:pr Int Tm->OS S):OS S:=dk k 0 c0 (ac c1) 0 (if 24<c2 then 24 else c2) fun q=>pr.elim q (fun q=>I (.ok (ac q))) (fun x=>I (.bD x))
def xa (k:Nat) (I:Tm×Int->OS S) (c0:Int) (c1:Tm) (c2:Int) (numbers:List Int) (x:Int->OS S) (q:Int):OS S:=ab (decide ((q:Int)<(numbers.length:Int))) (nW (af numbers q) fun x2=>ab (decide ((x2:Int)<0)) (I ((Tm.mk 0 0 oW [] [] []),2)) (x (oa .i64 (q+1)))) (aa k (yX k c0 (ac c1) c2) fun z=>pr.elim z (fun z=>I ((ac z),0)) (fun A=>I ((Tm.mk 0 0 oW [] [] []),A)))
def nC (k:Nat) (I:Tm×Int->OS S) (c0:Int) (c1:Tm) (c2:Int) (numbers:List Int):Nat->Int->OS S
 |0=>fun _=> .none
 |m+1=>fun q=>xa k I c0 c1 c2 numbers (nC k I c0 c1 c2 numbers m) q
def BQ (k:Nat) (I:Tm×Int->OS S) (J0:Int->OS S) (t:Tm) (numbers:List Int) (c0:Int) (c1:Tm) (c2:Int):OS S:=aa k (Dh k (ac t)) fun r1=>ab (!(r1==0)) (I ((Tm.mk 0 0 oW [] [] []),r1)) (J0 0)
def yZ (k:Nat) (t:Tm) (numbers:List Int) (c0:Int) (c1:Tm) (c2:Int) (I:Tm×Int->OS S):OS S:=BQ k I (fun q=>nC k I c0 c1 c2 numbers k q) t numbers c0 c1 c2
def lv (k:Nat) (t:Tm) (ow qu:Int) (I:Tm×Int->OS S):OS S:=aa k (yZ k (ac t) [ow,qu] qu (ac t) ow) fun r1=>I ((ac r1.1),r1.2)
def lr (k:Nat) (line:Tm) (qT:LC) (c0:Int) (I:Tm×Int->OS S):OS S:=aa k (de k c0) fun r1=>ab (!r1) (I ((Tm.mk 0 0 oW [] [] []),c0)) (aa k (lv k (ac line) 1 2) fun x=>aa k (iZ k x.2 c0) fun q=>aa k (de k q) fun A=>ab (!A) (I ((Tm.mk 0 0 oW [] [] []),q)) (aa k (m_ k (ac x.1) 0 qT) fun z=>aa k (iZ k z.2 q) fun B=>I ((ac z.1),B)))
def oQ (k:Nat) (I:Tm×Int->OS S) (a:Tm) (r5:Int×Int×BA×LT) (sys:LB) (E:Int->(LB)->Int->OS S) (x:Int) (q:LB) (z:Int):OS S:=ab (decide ((z:Int)<(sys.length:Int))) (nW (af sys z) fun x6=>aa k (de k x) fun O=>ab (!O) (aa k (Bx k (ac a) 0 2 x) fun L=>nW (aw 1099511627776 q.length [(Br.mk [(Cl.mk 0 1)] [(ac L.1)])].length) fun Y=>aa k (eQ k (Tm.mk r5.1 r5.2.1 r5.2.2.1 [] r5.2.2.2 (q++[(Br.mk [(Cl.mk 0 1)] [(ac L.1)])])) L.2) fun F=>I ((ac F.1),F.2.1)) (aa k (tA k x6.f x) fun A=>nW (af x6.c 0) fun M=>aa k (lr k (ac M) [(Cl.mk 3 0)] A.2) fun r13=>nW (aw 1099511627776 q.length [(Br.mk A.1 [(ac r13.1)])].length) fun T=>E r13.2 (q++[(Br.mk A.1 [(ac r13.1)])]) (oa .i64 (z+1)))) (aa k (Bx k (ac a) 0 2 x) fun B=>nW (aw 1099511627776 q.length [(Br.mk [(Cl.mk 0 1)] [(ac B.1)])].length) fun W=>aa k (eQ k (Tm.mk r5.1 r5.2.1 r5.2.2.1 [] r5.2.2.2 (q++[(Br.mk [(Cl.mk 0 1)] [(ac B.1)])])) B.2) fun J=>I ((ac J.1),J.2.1))
def gM (k:Nat) (I:Tm×Int->OS S) (a:Tm) (r5:Int×Int×BA×LT) (sys:LB):Nat->Int->(LB)->Int->OS S
 |0=>fun _ _ _=> .none
 |m+1=>fun x q z=>oQ k I a r5 sys (gM k I a r5 sys m) x q z
def Hr (k:Nat) (I:Tm×Int->OS S) (J0:(Int×Int×BA×LT)->Int->(LB)->Int->OS S) (t a:Tm) (sys:LB):OS S:=aa k (bF k sys) fun r1=>aa k (m9 k [(ac t),(ac a),(Tm.mk r1.1 r1.2.1 r1.2.2.1 [] r1.2.2.2.1 r1.2.2.2.2)]) fun z=>aa k (Bx k (ac t) 0 1 z) fun q=>aa k (Bx k (ac a) 0 1 q.2) fun x=>aa k (wq k 15 [(ac q.1),(ac x.1)]) fun A=>J0 A x.2 ([]:LB) 0
def yy (k:Nat) (t a:Tm) (sys:LB) (I:Tm×Int->OS S):OS S:=Hr k I (fun A x q z=>gM k I a A sys k x q z) t a sys
def y_ (k:Nat) (t a:Tm) (sys:LB) (c0:Int) (I:Tm×Int->OS S):OS S:=aa k (dG k c0) fun r1=>ab (!r1) (I ((Tm.mk 0 0 oW [] [] []),c0)) (aa k (yy k (ac t) (ac a) sys) fun q=>aa k (HM k (ac q.1) q.2 c0) fun x=>I ((ac x.1),x.2))
def yY (k:Nat) (c0:Int) (c1:Tm) (c2:Int) (I:pr Int Tm->OS S):OS S:=dk k c0 0 (ac c1) (if 2000000000<c2 then 2000000000 else c2) 0 fun q=>pr.elim q (fun q=>I (.ok (ac q))) (fun x=>I (.bD x))
def xb (k:Nat) (I:Tm×Int->OS S) (c0:Int) (c1:Tm) (c2:Int) (numbers:List Int) (x:Int->OS S) (q:Int):OS S:=ab (decide ((q:Int)<(numbers.length:Int))) (nW (af numbers q) fun x2=>ab (decide ((x2:Int)<0)) (I ((Tm.mk 0 0 oW [] [] []),2)) (x (oa .i64 (q+1)))) (aa k (yY k c0 (ac c1) c2) fun z=>pr.elim z (fun z=>I ((ac z),0)) (fun A=>I ((Tm.mk 0 0 oW [] [] []),A)))
def nD (k:Nat) (I:Tm×Int->OS S) (c0:Int) (c1:Tm) (c2:Int) (numbers:List Int):Nat->Int->OS S
 |0=>fun _=> .none
 |m+1=>fun q=>xb k I c0 c1 c2 numbers (nD k I c0 c1 c2 numbers m) q
def BR (k:Nat) (I:Tm×Int->OS S) (J0:Int->OS S) (t:Tm) (numbers:List Int) (c0:Int) (c1:Tm) (c2:Int):OS S:=aa k (Dh k (ac t)) fun r1=>ab (!(r1==0)) (I ((Tm.mk 0 0 oW [] [] []),r1)) (J0 0)
def q5 (k:Nat) (t:Tm) (numbers:List Int) (c0:Int) (c1:Tm) (c2:Int) (I:Tm×Int->OS S):OS S:=BR k I (fun q=>nD k I c0 c1 c2 numbers k q) t numbers c0 c1 c2
def G0 (k:Nat) (t:Tm) (ow qu:Int) (I:Tm×Int->OS S):OS S:=aa k (q5 k (ac t) [ow,qu,oa .i64 (1000000-qu)] qu (ac t) ow) fun r1=>I ((ac r1.1),r1.2)
def Sf (k:Nat) (t:Tm) (vars nP c0:Int) (I:Tm×Int->OS S):OS S:=aa k (dG k c0) fun r1=>ab (!r1) (I ((Tm.mk 0 0 oW [] [] []),c0)) (aa k (G0 k (ac t) 1 vars) fun x=>aa k (HM k (ac x.1) x.2 c0) fun q=>aa k (dG k q.2) fun B=>ab (!B) (I ((Tm.mk 0 0 oW [] [] []),q.2)) (aa k (lv k (ac q.1) 0 nP) fun z=>aa k (HM k (ac z.1) z.2 q.2) fun A=>I ((ac A.1),A.2)))
def zb (k:Nat) (t:Tm) (vars nP c0:Int) (I:Tm×Int->OS S):OS S:=aa k (dG k c0) fun r1=>ab (!r1) (I ((Tm.mk 0 0 oW [] [] []),c0)) (aa k (lu k (ac t) vars nP) fun q=>aa k (HM k (ac q.1) q.2 c0) fun x=>I ((ac x.1),x.2))
def jd (k:Nat) (I:Int×Int×BA×LT×Int->OS S) (c0:Tm) (c1:Int) (sO:Tm) (qu:Int) (x:Int->(LT)->Int->OS S) (z:Int) (q:LT) (xo:Int):OS S:=ab (decide ((xo:Int)<((List.drop (zm 1) (List.take (zm c1) c0.c)).length:Int))) (nW (af (List.drop (zm 1) (List.take (zm c1) c0.c)) xo) fun x2=>ab (decide ((qu:Int)>0)) (aa k (zb k (ac x2) 0 qu z) fun B=>nW (aw 1099511627776 q.length [(ac B.1)].length) fun x4=>x B.2 (q++[(ac B.1)]) (oa .i64 (xo+1))) (nW (aw 1099511627776 q.length [(ac x2)].length) fun x5=>x z (q++[(ac x2)]) (oa .i64 (xo+1)))) (nW (aw 1099511627776 q.length [(ac sO)].length) fun x6=>aa k (zc k c0.k (q++[(ac sO)])) fun A=>I (A.1,A.2.1,A.2.2.1,A.2.2.2,z))
def Nd (k:Nat) (I:Int×Int×BA×LT×Int->OS S) (c0:Tm) (c1:Int) (sO:Tm) (qu:Int):Nat->Int->(LT)->Int->OS S
 |0=>fun _ _ _=> .none
 |m+1=>fun x q xo=>jd k I c0 c1 sO qu (Nd k I c0 c1 sO qu m) x q xo
def BP (k:Nat) (I:Int×Int×BA×LT×Int->OS S) (J0:Int->(LT)->Int->OS S) (p:Tm) (qu:Int) (sO c0:Tm) (c1 c3:Int):OS S:=nW (bR (0<=(1:Int)/\(1:Int)<=c1/\c1<=(c0.c.length:Int))) fun x1=>J0 c3 [(ac p)] 0
def nc (k:Nat) (p:Tm) (qu:Int) (sO c0:Tm) (c1 c3:Int) (I:Int×Int×BA×LT×Int->OS S):OS S:=BP k I (fun x q xo=>Nd k I c0 c1 sO qu k x q xo) p qu sO c0 c1 c3
def wi (k:Nat) (f:LC) (kids:LT) (I:(Br Tm)->OS S):OS S:=I (Br.mk f kids)
def yz (k:Nat) (line:Tm) (c0:Int) (I:Tm×Int->OS S):OS S:=aa k (de k c0) fun r1=>ab (!r1) (I ((Tm.mk 0 0 oW [] [] []),c0)) (aa k (Nu k) fun x=>aa k (m_ k (ac line) 0 x) fun q=>aa k (iZ k q.2 c0) fun z=>I ((ac q.1),z))
def oP (k:Nat) (I:Tm×Int->OS S) (r3:Tm) (r9:Int×Int×BA×LT) (r6:Tm) (B:Int->(LB)->Int->OS S) (z:Int) (x:LB) (KN:Int):OS S:=ab (decide ((KN:Int)<(r6.s.length:Int))) (nW (af r6.s KN) fun A=>aa k (de k z) fun J=>ab (!J) (aa k (eQ k (Tm.mk r9.1 r9.2.1 r9.2.2.1 [] r9.2.2.2 x) z) fun E=>I ((ac E.1),E.2.1)) (aa k (lr k (ac r3) [(Cl.mk 1 0),(Cl.mk 2 0)] z) fun r13=>nW (af A.c 0) fun L=>aa k (wq k 14 [(ac r13.1),(ac L)]) fun q=>nW (aw 1099511627776 x.length [(Br.mk A.f [(Tm.mk q.1 q.2.1 q.2.2.1 [(Cl.mk 1 0)] q.2.2.2 [])])].length) fun M=>B r13.2 (x++[(Br.mk A.f [(Tm.mk q.1 q.2.1 q.2.2.1 [(Cl.mk 1 0)] q.2.2.2 [])])]) (oa .i64 (KN+1)))) (aa k (eQ k (Tm.mk r9.1 r9.2.1 r9.2.2.1 [] r9.2.2.2 x) z) fun F=>I ((ac F.1),F.2.1))
def ko (k:Nat) (I:Tm×Int->OS S) (r3:Tm) (r9:Int×Int×BA×LT) (r6:Tm):Nat->Int->(LB)->Int->OS S
 |0=>fun _ _ _=> .none
 |m+1=>fun x q KN=>oP k I r3 r9 r6 (ko k I r3 r9 r6 m) x q KN
def Hq (k:Nat) (I:Tm×Int->OS S) (J0:Tm->(Int×Int×BA×LT)->Tm->Int->(LB)->Int->OS S) (line a:Tm) (sys:LB):OS S:=aa k (bF k sys) fun r1=>aa k (m9 k [(ac line),(ac a),(Tm.mk r1.1 r1.2.1 r1.2.2.1 [] r1.2.2.2.1 r1.2.2.2.2)]) fun B=>dJ k (ac line) fun z=>dJ k (ac a) fun E=>aa k (bF k sys) fun q=>dJ k (Tm.mk q.1 q.2.1 q.2.2.1 [] q.2.2.2.1 q.2.2.2.2) fun F=>aa k (yz k (ac z) B) fun A=>aa k (wq k 14 [(ac z),(ac E)]) fun x=>aa k (wq k 15 [(ac A.1),(Tm.mk x.1 x.2.1 x.2.2.1 [] x.2.2.2 [])]) fun J=>J0 z J F A.2 ([]:LB) 0
def yx (k:Nat) (line a:Tm) (sys:LB) (I:Tm×Int->OS S):OS S:=Hq k I (fun z A B x q KN=>ko k I z A B k x q KN) line a sys
def y9 (k:Nat) (line a:Tm) (sys:LB) (c0:Int) (I:Tm×Int->OS S):OS S:=aa k (dG k c0) fun r1=>ab (!r1) (I ((Tm.mk 0 0 oW [] [] []),c0)) (aa k (yx k (ac line) (ac a) sys) fun q=>aa k (HM k (ac q.1) q.2 c0) fun x=>I ((ac x.1),x.2))
def oR (k:Nat) (I:Tm×Bool×Int->OS S) (r3:Tm) (r9 An:Tm×Int) (r13:Int×Int×BA×LT×Int) (t x4:Tm) (A:Int->(LB)->Int->OS S) (B:Int) (q:LB) (xk:Int):OS S:=ab (decide ((xk:Int)<(x4.s.length:Int))) (nW (af x4.s xk) fun E=>nW (af E.c 0) fun L=>aa k (nc k (ac r9.1) 1 (ac L) (ac r3) (oa .i64 ((t.c.length:Int)-1)) B) fun x=>aa k (wi k E.f [(Tm.mk x.1 x.2.1 x.2.2.1 [] x.2.2.2.1 [])]) fun F=>nW (aw 1099511627776 q.length [F].length) fun M=>A x.2.2.2.2 (q++[F]) (oa .i64 (xk+1))) (aa k (y9 k (ac An.1) (Tm.mk r13.1 r13.2.1 r13.2.2.1 [] r13.2.2.2.1 []) q B) fun J=>aa k (ly k (ac J.1) J.2) fun z=>I ((ac z.1),z.2.1,z.2.2.1))
def fX (k:Nat) (I:Tm×Bool×Int->OS S) (r3:Tm) (r9 An:Tm×Int) (r13:Int×Int×BA×LT×Int) (t x4:Tm):Nat->Int->(LB)->Int->OS S
 |0=>fun _ _ _=> .none
 |m+1=>fun x q z=>oR k I r3 r9 An r13 t x4 (fX k I r3 r9 An r13 t x4 m) x q z
def w_ (k:Nat) (I:Tm×Bool×Int->OS S) (t:Tm) (J1:Tm->(Tm×Int)->(Tm×Int)->(Int×Int×BA×LT×Int)->Tm->Int->(LB)->Int->OS S):OS S:=dJ k (ac t) fun q=>nW (af q.c (oa .i64 ((t.c.length:Int)-1))) fun x4=>nW (af x4.c 0) fun x5=>nW (af x4.c 1) fun x6=>aa k (y_ k (ac x5) (ac x6) x4.s 0) fun E=>nW (af q.c 0) fun F=>aa k (Sf k (ac F) 0 1 E.2) fun z=>aa k (za k (ac z.1) (ac E.1) z.2) fun x=>nW (af q.c 0) fun A=>nW (af x4.c 1) fun B=>aa k (nc k (ac A) 0 (ac B) (ac q) (oa .i64 ((t.c.length:Int)-1)) x.2) fun r13=>J1 q z x r13 x4 r13.2.2.2.2 ([]:LB) 0
def l6 (k:Nat) (I:Tm×Bool×Int->OS S) (t:Tm):Nat->OS S
 |0=> .none
 |_+1=>w_ k I t (fun B E x r13 x4 z q A=>fX k I B E x r13 t x4 k z q A)
def HU (k:Nat) (I:Tm×Bool×Int->OS S) (J0:OS S) (t:Tm):OS S:=aa k (Dh k (ac t)) fun r1=>ab (!(r1==0)) (I ((Tm.mk 0 0 oW [] [] []),false,r1)) (ab (!(t.k==22)) (ab (!(t.k==27)) (I ((Tm.mk 0 0 oW [] [] []),false,0)) (nW (af t.c (oa .i64 ((t.c.length:Int)-1))) fun x2=>ab (!(x2.k==15)) (I ((Tm.mk 0 0 oW [] [] []),false,0)) (J0))) (nW (af t.c (oa .i64 ((t.c.length:Int)-1))) fun q=>ab (!(q.k==15)) (I ((Tm.mk 0 0 oW [] [] []),false,0)) (J0)))
def tL (k:Nat) (t:Tm) (I:Tm×Bool×Int->OS S):OS S:=HU k I (l6 k I t k) t
def Ns (k:Nat) (qm:Int) (I:Int×Int×BA->OS S):OS S:=I (1,qm,oW)
def o7 (k:Nat) (I:Int->OS S) (l:List (LC)) (q:Int->OS S) (x:Int):OS S:=ab (decide ((x:Int)<(l.length:Int))) (nW (af l x) fun x1=>aa k (pd k x1) fun z=>ab (!z) (I 2) (q (oa .i64 (x+1)))) (I 0)
def ix (k:Nat) (I:Int->OS S) (l:List (LC)):Nat->Int->OS S
 |0=>fun _=> .none
 |m+1=>fun q=>o7 k I l (ix k I l m) q
def az8 (k:Nat) (I:Int->OS S) (J0:Int->OS S) (l:List (LC)):OS S:=J0 0
def sb (k:Nat) (l:List (LC)) (I:Int->OS S):OS S:=az8 k I (fun q=>ix k I l k q) l
def hL (k:Nat) (f g:LC) (I:LC×Int->OS S):OS S:=aa k (sb k [f,g]) fun r1=>ab (!(r1==0)) (I (([]:LC),r1)) (aa k (yL k f g) fun q=>I (q.1,q.2))
def RI (k:Nat) (f g:LC) (c0:Int) (I:LC×Int->OS S):OS S:=aa k (de k c0) fun r1=>ab (!r1) (I (([]:LC),c0)) (aa k (hL k f g) fun q=>aa k (iZ k q.2 c0) fun x=>I (q.1,x))
def L2 (k:Nat) (line:Tm) (nX:LC) (a:Tm) (Ip:Cl) (qT:LC) (I:Tm×Int->OS S):OS S:=aa k (m9 k [(ac line),(ac a)]) fun r1=>aa k (pd k nX) fun O=>ab (!O) (aa k (iZ k 2 r1) fun T=>aa k (tA k nX T) fun E=>aa k (RI k E.1 [Ip] E.2) fun F=>aa k (lr k (ac line) qT F.2) fun J=>aa k (Bx k (ac a) 0 1 J.2) fun L=>aa k (wq k 14 [(ac J.1),(ac L.1)]) fun B=>aa k (eQ k (Tm.mk B.1 B.2.1 B.2.2.1 F.1 B.2.2.2 []) L.2) fun M=>I ((ac M.1),M.2.1)) (aa k (tA k nX r1) fun q=>aa k (RI k q.1 [Ip] q.2) fun x=>aa k (lr k (ac line) qT x.2) fun z=>aa k (Bx k (ac a) 0 1 z.2) fun r13=>aa k (wq k 14 [(ac z.1),(ac r13.1)]) fun r14=>aa k (eQ k (Tm.mk r14.1 r14.2.1 r14.2.2.1 x.1 r14.2.2.2 []) r13.2) fun A=>I ((ac A.1),A.2.1))
def e3 (k:Nat) (line:Tm) (nX:LC) (a:Tm) (I:Tm×Int->OS S):OS S:=aa k (L2 k (ac line) nX (ac a) (Cl.mk 1 0) [(Cl.mk 0 1),(Cl.mk 2 0)]) fun r1=>I ((ac r1.1),r1.2)
def k4 (k:Nat) (line:Tm) (nX:LC) (a:Tm) (c0:Int) (I:Tm×Int->OS S):OS S:=aa k (dG k c0) fun r1=>ab (!r1) (I ((Tm.mk 0 0 oW [] [] []),c0)) (aa k (e3 k (ac line) nX (ac a)) fun q=>aa k (HM k (ac q.1) q.2 c0) fun x=>I ((ac x.1),x.2))
def Nk (k:Nat) (line a:Tm) (nV:Int) (nN:LC) (oI oE:Int) (oV:BA) (oT:LC) (oU:LT) (nU:LB) (I:Int×Int×BA×LC×LT->OS S):OS S:=aa k (tO k 14 nN [(ac line),(ac a)]) fun r1=>I (r1.1,r1.2.1,r1.2.2.1,r1.2.2.2.1,r1.2.2.2.2)
def rv (k:Nat) (l:Tm) (nV:Int) (nN:LC) (oI oE:Int) (oV:BA) (oT:LC) (oU:LT) (nU:LB) (I:Int×Int×BA×LT×Int->OS S):OS S:=nW (af l.c 0) fun x1=>aa k (zb k (ac x1) 1 0 nV) fun F=>aa k (Ns k 0) fun A=>aa k (k4 k (ac F.1) nN (Tm.mk A.1 A.2.1 A.2.2 [] [] []) F.2) fun B=>nW (af l.c 1) fun x5=>aa k (Sf k (ac x5) 1 0 B.2) fun J=>aa k (za k (ac J.1) (ac B.1) J.2) fun L=>aa k (zb k (Tm.mk oI oE oV oT oU nU) 1 0 L.2) fun M=>aa k (JL k (ac B.1) ([]:LC) M.2) fun E=>aa k (zc k 6 [(ac M.1),(ac E.1)]) fun x=>aa k (Nk k (ac L.1) (Tm.mk x.1 x.2.1 x.2.2.1 [] x.2.2.2 []) E.2 nN oI oE oV oT oU nU) fun q=>aa k (zc k 5 [(Tm.mk q.1 q.2.1 q.2.2.1 q.2.2.2.1 q.2.2.2.2 [])]) fun z=>I (z.1,z.2.1,z.2.2.1,z.2.2.2,E.2)
def dx (k:Nat) (line:Tm) (nX:LC) (a:Tm) (I:Tm×Int->OS S):OS S:=aa k (L2 k (ac line) nX (ac a) (Cl.mk 0 1) [(Cl.mk 3 0)]) fun r1=>I ((ac r1.1),r1.2)
def j2 (k:Nat) (line:Tm) (nX:LC) (a:Tm) (c0:Int) (I:Tm×Int->OS S):OS S:=aa k (dG k c0) fun r1=>ab (!r1) (I ((Tm.mk 0 0 oW [] [] []),c0)) (aa k (dx k (ac line) nX (ac a)) fun q=>aa k (HM k (ac q.1) q.2 c0) fun x=>I ((ac x.1),x.2))
def xo (k:Nat) (l:Tm) (nV:Int) (nN:LC) (oI oE:Int) (oV:BA) (oT:LC) (oU:LT) (nU:LB) (I:Int×Int×BA×LT×Int->OS S):OS S:=aa k (zc k 9 [(Tm.mk oI oE oV oT oU nU)]) fun r1=>nW (af l.c 1) fun x2=>nW (af l.c 0) fun x3=>aa k (j2 k (ac x3) nN (Tm.mk r1.1 r1.2.1 r1.2.2.1 [] r1.2.2.2 []) nV) fun E=>aa k (za k (ac x2) (ac E.1) E.2) fun A=>nW (af l.c 0) fun x6=>aa k (Nk k (ac x6) (Tm.mk r1.1 r1.2.1 r1.2.2.1 [] r1.2.2.2 []) A.2 nN oI oE oV oT oU nU) fun x=>aa k (zc k 10 [(Tm.mk oI oE oV oT oU nU)]) fun B=>aa k (Nk k (ac A.1) (Tm.mk B.1 B.2.1 B.2.2.1 [] B.2.2.2 []) A.2 nN oI oE oV oT oU nU) fun z=>aa k (zc k 8 [(Tm.mk x.1 x.2.1 x.2.2.1 x.2.2.2.1 x.2.2.2.2 []),(Tm.mk z.1 z.2.1 z.2.2.1 z.2.2.2.1 z.2.2.2.2 [])]) fun q=>I (q.1,q.2.1,q.2.2.1,q.2.2.2,A.2)
def c5 (k:Nat) (t:Tm) (I:Tm×Int->OS S):OS S:=aa k (lv k (ac t) 2 1) fun r1=>ab (!(r1.2==0)) (I ((Tm.mk 0 0 oW [] [] []),r1.2)) (aa k (m_ k (ac r1.1) 0 [(Cl.mk 2 0)]) fun q=>I ((ac q.1),q.2))
def K' (k:Nat) (t:Tm) (nV:Int) (nN:LC) (oI oE:Int) (oV:BA) (oT:LC) (oU:LT) (nU:LB) (I:Tm×Int->OS S):OS S:=ab (!(nV==0)) (I ((Tm.mk 0 0 oW [] [] []),nV)) (aa k (c5 k (ac t)) fun r1=>I ((ac r1.1),r1.2))
def p3 (k:Nat) (qu:Int) (qT:Cl) (c1 c2:Tm) (zx:Int) (uu:LC) (tY tX:Int) (tW:BA) (tV:LC) (tU:LT) (tT:LB) (I:Int×Int×BA×LC×LT×Int->OS S):OS S:=aa k (zb k (Tm.mk tY tX tW tV tU tT) 0 qu zx) fun r1=>aa k (zb k (ac c1) 0 qu r1.2) fun x=>aa k (zb k (ac c2) 0 qu x.2) fun z=>aa k (tO k 13 [qT] [(ac r1.1),(ac x.1),(ac z.1)]) fun q=>I (q.1,q.2.1,q.2.2.1,q.2.2.2.1,q.2.2.2.2,z.2)
def JK (k:Nat) (f:LC) (qu c0:Int) (I:LC×Int->OS S):OS S:=aa k (dG k c0) fun r1=>ab (!r1) (I (([]:LC),c0)) (aa k (jV k f 0 qu) fun q=>aa k (HM k (Tm.mk 0 0 oW [] [] []) q.2 c0) fun x=>I (q.1,x.2))
def JJ (k:Nat) (t:Tm) (qu c0:Int) (I:Tm×Int->OS S):OS S:=aa k (dG k c0) fun r1=>ab (!r1) (I ((Tm.mk 0 0 oW [] [] []),c0)) (aa k (lv k (ac t) 1 qu) fun q=>aa k (HM k (ac q.1) q.2 c0) fun x=>I ((ac x.1),x.2))
def h7 (k:Nat) (l:Tm) (nV:Int) (nN:LC) (oI oE:Int) (oV:BA) (oT:LC) (oU:LT) (nU:LB) (I:Int×Int×BA×LT×Int->OS S):OS S:=nW (af l.c 1) fun x1=>aa k (JL k (ac x1) ([]:LC) nV) fun Y=>nW (af l.c 2) fun x3=>aa k (JL k (ac x3) ([]:LC) Y.2) fun r4=>nW (af l.c 0) fun x5=>aa k (K' k (ac x5) r4.2 nN oI oE oV oT oU nU) fun r6=>aa k (p3 k 1 (Cl.mk 1 0) (ac Y.1) (ac r4.1) r6.2 nN oI oE oV oT oU nU) fun q=>ab (decide (((nN.length:Int):Int)>0)) (aa k (JK k nN 1 q.2.2.2.2.2) fun r8=>aa k (p3 k 2 (Cl.mk 2 0) (ac Y.1) (ac r4.1) r8.2 nN oI oE oV oT oU nU) fun E=>aa k (wi k r8.1 [(Tm.mk E.1 E.2.1 E.2.2.1 E.2.2.2.1 E.2.2.2.2.1 [])]) fun x=>nW (aw 1099511627776 0 [x].length) fun a6=>nW (af l.c 1) fun ad=>aa k (JJ k (ac ad) 1 E.2.2.2.2.2) fun r13=>aa k (wi k [(Cl.mk 0 1)] [(ac r13.1)]) fun r14=>nW (aw 1099511627776 [x].length [r14].length) fun a7=>nW (af l.c 2) fun ao=>aa k (JJ k (ac ao) 1 r13.2) fun F=>aa k (wi k [(Cl.mk 1 0)] [(ac F.1)]) fun J=>nW (aw 1099511627776 ([x]++[r14]).length [J].length) fun a8=>aa k (y9 k (ac r6.1) (Tm.mk q.1 q.2.1 q.2.2.1 q.2.2.2.1 q.2.2.2.2.1 []) (([x]++[r14])++[J]) F.2) fun L=>aa k (zc k 12 [(ac L.1)]) fun z=>I (z.1,z.2.1,z.2.2.1,z.2.2.2,L.2)) (nW (af l.c 1) fun ax=>aa k (JJ k (ac ax) 1 q.2.2.2.2.2) fun M=>aa k (wi k [(Cl.mk 0 1)] [(ac M.1)]) fun B=>nW (aw 1099511627776 0 [B].length) fun bc=>nW (af l.c 2) fun az=>aa k (JJ k (ac az) 1 M.2) fun O=>aa k (wi k [(Cl.mk 1 0)] [(ac O.1)]) fun T=>nW (aw 1099511627776 [B].length [T].length) fun bf=>aa k (y9 k (ac r6.1) (Tm.mk q.1 q.2.1 q.2.2.1 q.2.2.2.1 q.2.2.2.2.1 []) ([B]++[T]) O.2) fun W=>aa k (zc k 12 [(ac W.1)]) fun A=>I (A.1,A.2.1,A.2.2.1,A.2.2.2,W.2))
def JM (k:Nat) (kind:Int) (l:LB) (kids:LT) (I:Int×Int×BA×LT×LB->OS S):OS S:=I (kind,0,oW,kids,l)
def Jp (k:Nat) (I:Tm×Bool×Int->OS S) (r3:Tm) (x:Int×Int×BA×LC×LT) (x4:Tm) (r13:Tm×Int) (x5:Tm) (F:Int->(LB)->Int->OS S) (J:Int) (q:LB) (B:Int):OS S:=ab (decide ((B:Int)<(x5.s.length:Int))) (nW (af x5.s B) fun L=>aa k (JK k r3.r 1 J) fun M=>aa k (JJ k (ac x4) 1 M.2) fun O=>nW (af L.c 0) fun W=>aa k (tO k 14 M.1 [(ac O.1),(ac W)]) fun z=>aa k (wi k L.f [(Tm.mk z.1 z.2.1 z.2.2.1 z.2.2.2.1 z.2.2.2.2 [])]) fun T=>nW (aw 1099511627776 q.length [T].length) fun Y=>F O.2 (q++[T]) (oa .i64 (B+1))) (aa k (JM k 15 q [(ac r13.1),(Tm.mk x.1 x.2.1 x.2.2.1 x.2.2.2.1 x.2.2.2.2 [])]) fun A=>aa k (ly k (Tm.mk A.1 A.2.1 A.2.2.1 [] A.2.2.2.1 A.2.2.2.2) J) fun E=>I ((ac E.1),E.2.1,E.2.2.1))
def E7 (k:Nat) (I:Tm×Bool×Int->OS S) (r3:Tm) (x:Int×Int×BA×LC×LT) (x4:Tm) (r13:Tm×Int) (x5:Tm):Nat->Int->(LB)->Int->OS S
 |0=>fun _ _ _=> .none
 |m+1=>fun z q A=>Jp k I r3 x x4 r13 x5 (E7 k I r3 x x4 r13 x5 m) z q A
def SP (k:Nat) (I:Tm×Bool×Int->OS S) (J0:Tm->(Int×Int×BA×LC×LT)->Tm->(Tm×Int)->Tm->Int->(LB)->Int->OS S) (t:Tm):OS S:=aa k (Dh k (ac t)) fun r1=>ab (!(r1==0)) (I ((Tm.mk 0 0 oW [] [] []),false,r1)) (ab (!(t.k==14)) (I ((Tm.mk 0 0 oW [] [] []),false,0)) (nW (af t.c 0) fun x2=>ab (!(x2.k==23)) (I ((Tm.mk 0 0 oW [] [] []),false,0)) (dJ k (ac t) fun A=>nW (af A.c 0) fun x4=>nW (af A.c 1) fun x5=>ab (x5.k==24) (aa k (ly k (ac x5) 0) fun B=>I ((ac B.1),B.2.1,B.2.2.1)) (ab (x5.k==25) (aa k (ly k (ac x5) 0) fun E=>I ((ac E.1),E.2.1,E.2.2.1)) (ab (x5.k==26) (nW (af x4.c 0) fun L=>nW (af x5.c 0) fun M=>aa k (tO k 14 A.r [(ac L),(ac M)]) fun q=>aa k (tO k 26 x5.r [(Tm.mk q.1 q.2.1 q.2.2.1 q.2.2.2.1 q.2.2.2.2 [])]) fun x=>aa k (ly k (Tm.mk x.1 x.2.1 x.2.2.1 x.2.2.2.1 x.2.2.2.2 []) 0) fun z=>I ((ac z.1),z.2.1,z.2.2.1)) (ab (x5.k==15) (aa k (JI k (ac x4) 0) fun r13=>nW (af x5.c 1) fun F=>aa k (tO k 14 A.r [(ac x4),(ac F)]) fun J=>J0 A J x4 r13 x5 r13.2 ([]:LB) 0) (I ((Tm.mk 0 0 oW [] [] []),false,0))))))))
def JG (k:Nat) (t:Tm) (I:Tm×Bool×Int->OS S):OS S:=SP k I (fun B x x4 r13 x5 z q A=>E7 k I B x x4 r13 x5 k z q A) t
def r2 (k:Nat) (b:(Br Tm)) (I:(Br Tm)->OS S):OS S:=nW (af b.c 1) fun x1=>aa k (wi k b.f [(ac x1)]) fun q=>I q
def hz (k:Nat) (I:LB->OS S) (l:LB) (x:Int->(LB)->OS S) (qk:Int) (q:LB):OS S:=ab (decide ((qk:Int)<(l.length:Int))) (nW (af l qk) fun x1=>aa k (r2 k x1) fun z=>nW (aw 1099511627776 q.length [z].length) fun x3=>x (oa .i64 (qk+1)) (q++[z])) (I q)
def qd (k:Nat) (I:LB->OS S) (l:LB):Nat->Int->(LB)->OS S
 |0=>fun _ _=> .none
 |m+1=>fun qk q=>hz k I l (qd k I l m) qk q
def j' (k:Nat) (I:LB->OS S) (J0:Int->(LB)->OS S) (l:LB):OS S:=J0 0 ([]:LB)
def dh (k:Nat) (l:LB) (I:LB->OS S):OS S:=j' k I (fun qk q=>qd k I l k qk q) l
def SH (k:Nat) (g:Tm) (I:LB->OS S):OS S:=aa k (dh k g.s) fun r1=>I r1
def Nn (k:Nat) (a:Tm) (es:LB) (I:Int×Int×BA×LT×LB->OS S):OS S:=aa k (JM k 18 es [(ac a)]) fun r1=>I (r1.1,r1.2.1,r1.2.2.1,r1.2.2.2.1,r1.2.2.2.2)
def ay3 (k:Nat) (c:Cl) (c0:Int) (I:Cl×Bool->OS S):OS S:=aa k (Mk k (bj .or .u32 c.pos c.neg) c0) fun r1=>I (c,!r1)
def cy (k:Nat) (I:LC->OS S) (c0:Int) (l:LC) (x:Int->(LC)->OS S) (te:Int) (q:LC):OS S:=ab (decide ((te:Int)<(l.length:Int))) (nW (af l te) fun x1=>aa k (ay3 k x1 c0) fun z=>ab (z.2) (nW (aw 1099511627776 q.length [z.1].length) fun x3=>x (oa .i64 (te+1)) (q++[z.1])) (x (oa .i64 (te+1)) q)) (I q)
def mj (k:Nat) (I:LC->OS S) (c0:Int) (l:LC):Nat->Int->(LC)->OS S
 |0=>fun _ _=> .none
 |m+1=>fun te q=>cy k I c0 l (mj k I c0 l m) te q
def az7 (k:Nat) (I:LC->OS S) (J0:Int->(LC)->OS S) (l:LC) (c0:Int):OS S:=J0 0 ([]:LC)
def ay4 (k:Nat) (l:LC) (c0:Int) (I:LC->OS S):OS S:=az7 k I (fun te q=>mj k I c0 l k te q) l c0
def dd (k:Nat) (f:LC) (i:Int) (I:LC×Int->OS S):OS S:=aa k (pd k f) fun r1=>ab (!r1) (I (([]:LC),2)) (aa k (yK k i) fun x=>ab (!x) (I (([]:LC),2)) (aa k (ay4 k f i) fun z=>aa k (gy k z) fun q=>I (q.1,q.2)))
def Fk (k:Nat) (f:LC) (c0:Int) (I:LC×Int->OS S):OS S:=aa k (dG k c0) fun r1=>ab (!r1) (I (([]:LC),c0)) (aa k (dd k f 0) fun A=>aa k (HM k (Tm.mk 0 0 oW [] [] []) A.2 c0) fun z=>aa k (dG k z.2) fun E=>ab (!E) (I (([]:LC),z.2)) (aa k (zc k 3 ([]:LT)) fun q=>aa k (zc k 3 ([]:LT)) fun x=>aa k (tK k) fun F=>aa k (m_ k (Tm.mk 14 0 oW A.1 [(Tm.mk q.1 q.2.1 q.2.2.1 [] q.2.2.2 []),(Tm.mk x.1 x.2.1 x.2.2.1 [] x.2.2.2 [])] []) 0 F) fun B=>aa k (HM k (Tm.mk 0 0 oW [] [] []) B.2 z.2) fun J=>I (B.1.r,J.2)))
def lf (k:Nat) (c1:Tm) (q:Int) (x:LC) (z A:Int) (B:BA) (E:LC) (F:LT) (J L:LB) (M O:Int) (T:BA) (W:LC) (Y:LT) (ad:LB) (ao ax:Int) (az:BA) (a6:LC) (a7:LT) (a8:LB) (I:Tm×Int->OS S):OS S:=aa k (zb k (ac c1) 0 1 q) fun r1=>I ((ac r1.1),r1.2)
def p' (k:Nat) (nV:Int) (nN:LC) (oI oE:Int) (oV:BA) (oT:LC) (oU:LT) (nU q:LB) (uN uW:Int) (uV:BA) (uU:LC) (uT:LT) (uO:LB) (tR tQ:Int) (tP:BA) (tM:LC) (th:LT) (tg:LB) (c2:Tm) (I:LB×Int->OS S):OS S:=ab ((nN.length:Int)==0) (I (([]:LB),nV)) (aa k (lf k (ac c2) nV nN oI oE oV oT oU nU q uN uW uV uU uT uO tR tQ tP tM th tg) fun r1=>aa k (wi k nN [(ac r1.1)]) fun x=>I ([x],r1.2))
def No (k:Nat) (xw:Tm) (I:Int×Int×BA×LT->OS S):OS S:=aa k (zc k 9 [(ac xw)]) fun r1=>I (r1.1,r1.2.1,r1.2.2.1,r1.2.2.2)
def ay7 (k:Nat) (b:(Br Tm)) (uA:Int) (qM:LC) (qK qJ:Int) (qI:BA) (qH:LC) (qG:LT) (qR sK:LB) (rm rL:Int) (rK:BA) (rE:LC) (rq:LT) (rO:LB) (sJ sI:Int) (sH:BA) (rP:LC) (sM:LT) (sL:LB) (I:(Br Tm)×Int->OS S):OS S:=nW (af b.c 1) fun x1=>aa k (No k (ac x1)) fun q=>nW (af b.c 0) fun x3=>aa k (j2 k (ac x3) qM (Tm.mk qK qJ qI qH qG qR) uA) fun z=>aa k (zc k 6 [(Tm.mk q.1 q.2.1 q.2.2.1 [] q.2.2.2 []),(ac z.1)]) fun x=>aa k (wi k b.f [(Tm.mk x.1 x.2.1 x.2.2.1 [] x.2.2.2 [])]) fun A=>I (A,z.2)
def r4 (k:Nat) (I:LB×Int->OS S) (qM:LC) (rL:Int) (rK:BA) (rE:LC) (rq:LT) (rO:LB) (sJ sI:Int) (sH:BA) (rP:LC) (sM:LT) (qK:Int) (sL:LB) (qJ:Int) (qI:BA) (qH:LC) (qG:LT) (qR sK:LB) (rm:Int) (l:LB) (x:Int->Int->(LB)->OS S) (arm qk:Int) (q:LB):OS S:=ab (decide ((qk:Int)<(l.length:Int))) (nW (af l qk) fun x1=>aa k (ay7 k x1 arm qM qK qJ qI qH qG qR sK rm rL rK rE rq rO sJ sI sH rP sM sL) fun z=>nW (aw 1099511627776 q.length [z.1].length) fun x3=>x z.2 (oa .i64 (qk+1)) (q++[z.1])) (I (q,arm))
def kv (k:Nat) (I:LB×Int->OS S) (qM:LC) (rL:Int) (rK:BA) (rE:LC) (rq:LT) (rO:LB) (sJ sI:Int) (sH:BA) (rP:LC) (sM:LT) (qK:Int) (sL:LB) (qJ:Int) (qI:BA) (qH:LC) (qG:LT) (qR sK:LB) (rm:Int) (l:LB):Nat->Int->Int->(LB)->OS S
 |0=>fun _ _ _=> .none
 |m+1=>fun arm qk q=>r4 k I qM rL rK rE rq rO sJ sI sH rP sM qK sL qJ qI qH qG qR sK rm l (kv k I qM rL rK rE rq rO sJ sI sH rP sM qK sL qJ qI qH qG qR sK rm l m) arm qk q
def aAa (k:Nat) (I:LB×Int->OS S) (J0:Int->Int->(LB)->OS S) (l:LB) (uA:Int) (qM:LC) (qK qJ:Int) (qI:BA) (qH:LC) (qG:LT) (qR sK:LB) (rm rL:Int) (rK:BA) (rE:LC) (rq:LT) (rO:LB) (sJ sI:Int) (sH:BA) (rP:LC) (sM:LT) (sL:LB):OS S:=J0 uA 0 ([]:LB)
def gk (k:Nat) (l:LB) (uA:Int) (qM:LC) (qK qJ:Int) (qI:BA) (qH:LC) (qG:LT) (qR sK:LB) (rm rL:Int) (rK:BA) (rE:LC) (rq:LT) (rO:LB) (sJ sI:Int) (sH:BA) (rP:LC) (sM:LT) (sL:LB) (I:LB×Int->OS S):OS S:=aAa k I (fun arm qk q=>kv k I qM rL rK rE rq rO sJ sI sH rP sM qK sL qJ qI qH qG qR sK rm l k arm qk q) l uA qM qK qJ qI qH qG qR sK rm rL rK rE rq rO sJ sI sH rP sM sL
def l2 (k:Nat) (I:Int×LB×Int×Int×BA×LC×LT×LB->OS S) (nN:LC) (uW:Int) (uV:BA) (uU:LC) (uT:LT) (uO:LB) (tR tQ:Int) (tP:BA) (tM:LC) (th:LT) (oI:Int) (tg:LB) (oE:Int) (oV:BA) (oT:LC) (oU:LT) (nU:LB) (uN:Int) (g:Tm) (r3:Int×Int×BA×LT×LB) (z:Int->(LB)->Int->OS S) (A:Int) (q:LB) (IG:Int):OS S:=ab (decide ((IG:Int)<(g.s.length:Int))) (nW (af g.s IG) fun x4=>aa k (Fk k x4.f A) fun B=>ab (decide (((B.1.length:Int):Int)>0)) (aa k (wi k B.1 x4.c) fun L=>nW (aw 1099511627776 q.length [L].length) fun O=>z B.2 (q++[L]) (oa .i64 (IG+1))) (z B.2 q (oa .i64 (IG+1)))) (aa k (p' k A nN oI oE oV oT oU nU q uN uW uV uU uT uO tR tQ tP tM th tg (Tm.mk r3.1 r3.2.1 r3.2.2.1 [] r3.2.2.2.1 r3.2.2.2.2)) fun E=>aa k (gk k q E.2 nN oI oE oV oT oU nU q uN uW uV uU uT uO tR tQ tP tM th tg) fun F=>nW (aw 1099511627776 E.1.length F.1.length) fun M=>nW (af g.c 0) fun J=>aa k (y9 k (ac J) (Tm.mk r3.1 r3.2.1 r3.2.2.1 [] r3.2.2.2.1 r3.2.2.2.2) (E.1++F.1) F.2) fun x=>I (x.2,q,x.1.k,x.1.n,x.1.name,x.1.r,x.1.c,x.1.s))
def k9 (k:Nat) (I:Int×LB×Int×Int×BA×LC×LT×LB->OS S) (nN:LC) (uW:Int) (uV:BA) (uU:LC) (uT:LT) (uO:LB) (tR tQ:Int) (tP:BA) (tM:LC) (th:LT) (oI:Int) (tg:LB) (oE:Int) (oV:BA) (oT:LC) (oU:LT) (nU:LB) (uN:Int) (g:Tm) (r3:Int×Int×BA×LT×LB):Nat->Int->(LB)->Int->OS S
 |0=>fun _ _ _=> .none
 |m+1=>fun x q IG=>l2 k I nN uW uV uU uT uO tR tQ tP tM th oI tg oE oV oT oU nU uN g r3 (k9 k I nN uW uV uU uT uO tR tQ tP tM th oI tg oE oV oT oU nU uN g r3 m) x q IG
def az_ (k:Nat) (I:Int×LB×Int×Int×BA×LC×LT×LB->OS S) (J0:(Int×Int×BA×LT×LB)->Int->(LB)->Int->OS S) (g:Tm) (nV:Int) (nN:LC) (oI oE:Int) (oV:BA) (oT:LC) (oU:LT) (nU:LB) (uN uW:Int) (uV:BA) (uU:LC) (uT:LT) (uO:LB) (tR tQ:Int) (tP:BA) (tM:LC) (th:LT) (tg:LB):OS S:=aa k (JL k (ac g) ([]:LC) nV) fun r1=>aa k (SH k (ac r1.1)) fun q=>aa k (Nn k (Tm.mk oI oE oV oT oU nU) q) fun x=>J0 x r1.2 ([]:LB) 0
def R' (k:Nat) (g:Tm) (nV:Int) (nN:LC) (oI oE:Int) (oV:BA) (oT:LC) (oU:LT) (nU:LB) (uN uW:Int) (uV:BA) (uU:LC) (uT:LT) (uO:LB) (tR tQ:Int) (tP:BA) (tM:LC) (th:LT) (tg:LB) (I:Int×LB×Int×Int×BA×LC×LT×LB->OS S):OS S:=az_ k I (fun z x q IG=>k9 k I nN uW uV uU uT uO tR tQ tP tM th oI tg oE oV oT oU nU uN g z k x q IG) g nV nN oI oE oV oT oU nU uN uW uV uU uT uO tR tQ tP tM th tg
def Iw (k:Nat) (qm:Int) (I:Int×Int×BA->OS S):OS S:=I (1,qm,oW)
def SI (k:Nat) (t a f y:Tm) (c0:Int) (I:Int×Int×BA×LT×Int->OS S):OS S:=aa k (Bx k (ac a) 1 1 c0) fun r1=>aa k (Bx k (ac y) 1 0 r1.2) fun B=>aa k (Bx k (ac f) 1 0 B.2) fun E=>aa k (Iw k 0) fun A=>aa k (wq k 6 [(ac E.1),(Tm.mk A.1 A.2.1 A.2.2 [] [] [])]) fun q=>aa k (wq k 11 [(ac r1.1),(ac B.1),(Tm.mk q.1 q.2.1 q.2.2.1 [] q.2.2.2 [])]) fun x=>aa k (wq k 7 [(ac t),(Tm.mk x.1 x.2.1 x.2.2.1 [] x.2.2.2 [])]) fun z=>I (z.1,z.2.1,z.2.2.1,z.2.2.2,E.2)
def o2 (k:Nat) (t a f y:Tm) (I:Tm×Int->OS S):OS S:=aa k (m9 k [(ac t),(ac a),(ac f),(ac y)]) fun r1=>dJ k (ac t) fun z=>aa k (SI k (ac z) (ac a) (ac f) (ac y) r1) fun q=>aa k (eQ k (Tm.mk q.1 q.2.1 q.2.2.1 [] q.2.2.2.1 []) q.2.2.2.2) fun x=>I ((ac x.1),x.2.1)
def IG (k:Nat) (t a f y:Tm) (c0:Int) (I:Tm×Int->OS S):OS S:=aa k (dG k c0) fun r1=>ab (!r1) (I ((Tm.mk 0 0 oW [] [] []),c0)) (aa k (o2 k (ac t) (ac a) (ac f) (ac y)) fun q=>aa k (HM k (ac q.1) q.2 c0) fun x=>I ((ac x.1),x.2))
def jb (k:Nat) (sO c1:Tm) (F:Int) (ad:LC) (ao ax:Int) (az:BA) (a6:LC) (a7:LT) (a8 bc:LB) (J L:Int) (M:BA) (O:LC) (T:LT) (W:LB) (bf bh:Int) (bn:BA) (bt:LC) (bz:LT) (b0:LB) (I:Int×Int×BA×LC×LT×Int->OS S):OS S:=aa k (zb k (ac c1) 0 1 F) fun r1=>aa k (zb k (ac sO) 0 1 r1.2) fun Y=>aa k (zb k (Tm.mk J L M O T W) 0 2 Y.2) fun r3=>aa k (zc k 12 [(ac r3.1)]) fun z=>aa k (zc k 8 [(ac Y.1),(Tm.mk z.1 z.2.1 z.2.2.1 [] z.2.2.2 [])]) fun q=>aa k (zc k 10 [(ac r1.1)]) fun A=>aa k (zc k 6 [(Tm.mk A.1 A.2.1 A.2.2.1 [] A.2.2.2 []),(Tm.mk q.1 q.2.1 q.2.2.1 [] q.2.2.2 [])]) fun B=>aa k (zc k 9 [(ac r1.1)]) fun E=>aa k (tO k 13 [(Cl.mk 1 0)] [(Tm.mk B.1 B.2.1 B.2.2.1 [] B.2.2.2 []),(Tm.mk E.1 E.2.1 E.2.2.1 [] E.2.2.2 []),(Tm.mk q.1 q.2.1 q.2.2.1 [] q.2.2.2 [])]) fun x=>I (x.1,x.2.1,x.2.2.1,x.2.2.2.1,x.2.2.2.2,r3.2)
def h9 (k:Nat) (c2:Tm) (zx:Int) (uu:LC) (tY tX:Int) (tW:BA) (tV:LC) (tU:LT) (tT vi:LB) (vh wc:Int) (v8:BA) (v7:LC) (aq_:LT) (vn:LB) (vm vl:Int) (vk:BA) (vg:LC) (vj:LT) (arg:LB) (I:Int×Int×BA×LC×LT×Int->OS S):OS S:=aa k (jb k (Tm.mk tY tX tW tV tU tT) (ac c2) zx uu tY tX tW tV tU tT vi vh wc v8 v7 aq_ vn vm vl vk vg vj arg) fun r1=>I (r1.1,r1.2.1,r1.2.2.1,r1.2.2.2.1,r1.2.2.2.2.1,r1.2.2.2.2.2)
def ec (k:Nat) (nV:Int) (nN:LC) (oI oE:Int) (oV:BA) (oT:LC) (oU:LT) (nU q:LB) (uN uW:Int) (uV:BA) (uU:LC) (uT:LT) (uO:LB) (tR tQ:Int) (tP:BA) (tM:LC) (th:LT) (tg:LB) (c3:Tm) (I:LB×Int->OS S):OS S:=ab ((nN.length:Int)==0) (I (([]:LB),nV)) (aa k (h9 k (ac c3) nV nN oI oE oV oT oU nU q uN uW uV uU uT uO tR tQ tP tM th tg) fun r1=>aa k (wi k nN [(Tm.mk r1.1 r1.2.1 r1.2.2.1 r1.2.2.2.1 r1.2.2.2.2.1 [])]) fun x=>I ([x],r1.2.2.2.2.2))
def ay8 (k:Nat) (b:(Br Tm)) (c2:Tm) (zx:Int) (uu:LC) (tY tX:Int) (tW:BA) (tV:LC) (tU:LT) (tT vi:LB) (vh wc:Int) (v8:BA) (v7:LC) (aq_:LT) (vn:LB) (vm vl:Int) (vk:BA) (vg:LC) (vj:LT) (arg:LB) (I:(Br Tm)×Int->OS S):OS S:=nW (af b.c 0) fun x1=>aa k (tO k 14 uu [(ac x1),(Tm.mk tY tX tW tV tU tT)]) fun x=>aa k (jb k (Tm.mk x.1 x.2.1 x.2.2.1 x.2.2.2.1 x.2.2.2.2 []) (ac c2) zx uu tY tX tW tV tU tT vi vh wc v8 v7 aq_ vn vm vl vk vg vj arg) fun q=>aa k (wi k b.f [(Tm.mk q.1 q.2.1 q.2.2.1 q.2.2.2.1 q.2.2.2.2.1 [])]) fun z=>I (z,q.2.2.2.2.2)
def tf (k:Nat) (I:LB×Int->OS S) (c2:Tm) (uu:LC) (wc:Int) (v8:BA) (v7:LC) (aq_:LT) (vn:LB) (vm vl:Int) (vk:BA) (vg:LC) (vj:LT) (tY:Int) (arg:LB) (tX:Int) (tW:BA) (tV:LC) (tU:LT) (tT vi:LB) (vh:Int) (l:LB) (x:Int->Int->(LB)->OS S) (z qk:Int) (q:LB):OS S:=ab (decide ((qk:Int)<(l.length:Int))) (nW (af l qk) fun x1=>aa k (ay8 k x1 (ac c2) z uu tY tX tW tV tU tT vi vh wc v8 v7 aq_ vn vm vl vk vg vj arg) fun A=>nW (aw 1099511627776 q.length [A.1].length) fun x3=>x A.2 (oa .i64 (qk+1)) (q++[A.1])) (I (q,z))
def Sx (k:Nat) (I:LB×Int->OS S) (c2:Tm) (uu:LC) (wc:Int) (v8:BA) (v7:LC) (aq_:LT) (vn:LB) (vm vl:Int) (vk:BA) (vg:LC) (vj:LT) (tY:Int) (arg:LB) (tX:Int) (tW:BA) (tV:LC) (tU:LT) (tT vi:LB) (vh:Int) (l:LB):Nat->Int->Int->(LB)->OS S
 |0=>fun _ _ _=> .none
 |m+1=>fun x qk q=>tf k I c2 uu wc v8 v7 aq_ vn vm vl vk vg vj tY arg tX tW tV tU tT vi vh l (Sx k I c2 uu wc v8 v7 aq_ vn vm vl vk vg vj tY arg tX tW tV tU tT vi vh l m) x qk q
def aAd (k:Nat) (I:LB×Int->OS S) (J0:Int->Int->(LB)->OS S) (l:LB) (c2:Tm) (zx:Int) (uu:LC) (tY tX:Int) (tW:BA) (tV:LC) (tU:LT) (tT vi:LB) (vh wc:Int) (v8:BA) (v7:LC) (aq_:LT) (vn:LB) (vm vl:Int) (vk:BA) (vg:LC) (vj:LT) (arg:LB):OS S:=J0 zx 0 ([]:LB)
def r3 (k:Nat) (l:LB) (c2:Tm) (zx:Int) (uu:LC) (tY tX:Int) (tW:BA) (tV:LC) (tU:LT) (tT vi:LB) (vh wc:Int) (v8:BA) (v7:LC) (aq_:LT) (vn:LB) (vm vl:Int) (vk:BA) (vg:LC) (vj:LT) (arg:LB) (I:LB×Int->OS S):OS S:=aAd k I (fun x qk q=>Sx k I c2 uu wc v8 v7 aq_ vn vm vl vk vg vj tY arg tX tW tV tU tT vi vh l k x qk q) l c2 zx uu tY tX tW tV tU tT vi vh wc v8 v7 aq_ vn vm vl vk vg vj arg
def J2 (k:Nat) (t xw:Tm) (nV:Int) (nN:LC) (oI oE:Int) (oV:BA) (oT:LC) (oU:LT) (nU x:LB) (uN uW:Int) (uV:BA) (uU:LC) (uT:LT) (uO:LB) (tR tQ:Int) (tP:BA) (tM:LC) (th:LT) (tg:LB) (I:Int×Int×BA×LT×LB×Int->OS S):OS S:=aa k (zc k 10 [(ac xw)]) fun r1=>aa k (zc k 6 [(Tm.mk r1.1 r1.2.1 r1.2.2.1 [] r1.2.2.2 []),(Tm.mk uN uW uV uU uT uO)]) fun q=>aa k (No k (ac xw)) fun A=>aa k (IG k (ac t) (Tm.mk tR tQ tP tM th tg) (Tm.mk A.1 A.2.1 A.2.2.1 [] A.2.2.2 []) (Tm.mk uN uW uV uU uT uO) nV) fun J=>aa k (ec k J.2 nN oI oE oV oT oU nU x uN uW uV uU uT uO tR tQ tP tM th tg (Tm.mk q.1 q.2.1 q.2.2.1 [] q.2.2.2 [])) fun E=>aa k (r3 k x (Tm.mk q.1 q.2.1 q.2.2.1 [] q.2.2.2 []) E.2 nN oI oE oV oT oU nU x uN uW uV uU uT uO tR tQ tP tM th tg) fun F=>nW (aw 1099511627776 E.1.length F.1.length) fun L=>aa k (zc k 9 [(Tm.mk q.1 q.2.1 q.2.2.1 [] q.2.2.2 [])]) fun B=>aa k (JM k 15 (E.1++F.1) [(ac J.1),(Tm.mk B.1 B.2.1 B.2.2.1 [] B.2.2.2 [])]) fun z=>I (z.1,z.2.1,z.2.2.1,z.2.2.2.1,z.2.2.2.2,F.2)
def ay5 (k:Nat) (b:(Br Tm)) (uA:Int) (qM:LC) (qK qJ:Int) (qI:BA) (qH:LC) (qG:LT) (qR sK:LB) (rm rL:Int) (rK:BA) (rE:LC) (rq:LT) (rO:LB) (sJ sI:Int) (sH:BA) (rP:LC) (sM:LT) (sL:LB) (I:Int×Int×BA×LT×LB×Int->OS S):OS S:=nW (af b.c 0) fun x1=>nW (af b.c 1) fun x2=>aa k (J2 k (ac x1) (ac x2) uA qM qK qJ qI qH qG qR sK rm rL rK rE rq rO sJ sI sH rP sM sL) fun q=>I (q.1,q.2.1,q.2.2.1,q.2.2.2.1,q.2.2.2.2.1,q.2.2.2.2.2)
def hQ (k:Nat) (I:LT×Int->OS S) (qM:LC) (rL:Int) (rK:BA) (rE:LC) (rq:LT) (rO:LB) (sJ sI:Int) (sH:BA) (rP:LC) (sM:LT) (qK:Int) (sL:LB) (qJ:Int) (qI:BA) (qH:LC) (qG:LT) (qR sK:LB) (rm:Int) (l:LB) (z:Int->Int->(LT)->OS S) (arm qk:Int) (q:LT):OS S:=ab (decide ((qk:Int)<(l.length:Int))) (nW (af l qk) fun x1=>aa k (ay5 k x1 arm qM qK qJ qI qH qG qR sK rm rL rK rE rq rO sJ sI sH rP sM sL) fun x=>nW (aw 1099511627776 q.length [(Tm.mk x.1 x.2.1 x.2.2.1 [] x.2.2.2.1 x.2.2.2.2.1)].length) fun x3=>z x.2.2.2.2.2 (oa .i64 (qk+1)) (q++[(Tm.mk x.1 x.2.1 x.2.2.1 [] x.2.2.2.1 x.2.2.2.2.1)])) (I (q,arm))
def e7 (k:Nat) (I:LT×Int->OS S) (qM:LC) (rL:Int) (rK:BA) (rE:LC) (rq:LT) (rO:LB) (sJ sI:Int) (sH:BA) (rP:LC) (sM:LT) (qK:Int) (sL:LB) (qJ:Int) (qI:BA) (qH:LC) (qG:LT) (qR sK:LB) (rm:Int) (l:LB):Nat->Int->Int->(LT)->OS S
 |0=>fun _ _ _=> .none
 |m+1=>fun arm qk q=>hQ k I qM rL rK rE rq rO sJ sI sH rP sM qK sL qJ qI qH qG qR sK rm l (e7 k I qM rL rK rE rq rO sJ sI sH rP sM qK sL qJ qI qH qG qR sK rm l m) arm qk q
def aAc (k:Nat) (I:LT×Int->OS S) (J0:Int->Int->(LT)->OS S) (l:LB) (uA:Int) (qM:LC) (qK qJ:Int) (qI:BA) (qH:LC) (qG:LT) (qR sK:LB) (rm rL:Int) (rK:BA) (rE:LC) (rq:LT) (rO:LB) (sJ sI:Int) (sH:BA) (rP:LC) (sM:LT) (sL:LB):OS S:=J0 uA 0 ([]:LT)
def k6 (k:Nat) (l:LB) (uA:Int) (qM:LC) (qK qJ:Int) (qI:BA) (qH:LC) (qG:LT) (qR sK:LB) (rm rL:Int) (rK:BA) (rE:LC) (rq:LT) (rO:LB) (sJ sI:Int) (sH:BA) (rP:LC) (sM:LT) (sL:LB) (I:LT×Int->OS S):OS S:=aAc k I (fun arm qk q=>e7 k I qM rL rK rE rq rO sJ sI sH rP sM qK sL qJ qI qH qG qR sK rm l k arm qk q) l uA qM qK qJ qI qH qG qR sK rm rL rK rE rq rO sJ sI sH rP sM sL
def xr (k:Nat) (uA:Int) (qM:LC) (qK qJ:Int) (qI:BA) (qH:LC) (qG:LT) (qR sK:LB) (rm rL:Int) (rK:BA) (rE:LC) (rq:LT) (rO:LB) (sJ sI:Int) (sH:BA) (rP:LC) (sM:LT) (sL:LB) (I:Tm×Int->OS S):OS S:=aa k (zb k (Tm.mk rm rL rK rE rq rO) 0 1 uA) fun r1=>I ((ac r1.1),r1.2)
def ka (k:Nat) (nV:Int) (nN:LC) (oI oE:Int) (oV:BA) (oT:LC) (oU:LT) (nU q:LB) (uN uW:Int) (uV:BA) (uU:LC) (uT:LT) (uO:LB) (tR tQ:Int) (tP:BA) (tM:LC) (th:LT) (tg:LB) (I:LB×Int->OS S):OS S:=ab ((nN.length:Int)==0) (I (([]:LB),nV)) (aa k (xr k nV nN oI oE oV oT oU nU q uN uW uV uU uT uO tR tQ tP tM th tg) fun r1=>aa k (wi k nN [(ac r1.1)]) fun x=>I ([x],r1.2))
def r5 (k:Nat) (I:Tm×Bool×Int->OS S) (r3:Tm) (r6:Int×LB×Int×Int×BA×LC×LT×LB) (x4:Tm) (r8:Tm×Int) (ad:Int->Int->Int->BA->(LC)->(LT)->(LB)->(LB)->Int->(LT)->(LB)->OS S) (ao ax az:Int) (a6:BA) (a7:LC) (a8:LT) (bc q:LB) (H0:Int) (x:LT) (z:LB):OS S:=ab (decide ((H0:Int)<(r8.1.s.length:Int))) (nW (af r8.1.s H0) fun T=>nW (af x H0) fun b2=>nW (af x H0) fun bz=>aa k (zb k (ac bz) 0 1 ao) fun W=>aa k (zb k (Tm.mk r6.2.2.1 r6.2.2.2.1 r6.2.2.2.2.1 r6.2.2.2.2.2.1 r6.2.2.2.2.2.2.1 r6.2.2.2.2.2.2.2) 0 1 W.2) fun bf=>nW (af T.c 1) fun b0=>aa k (zb k (ac b0) 0 1 bf.2) fun bh=>aa k (No k (ac bh.1)) fun F=>aa k (zc k 9 [(ac W.1)]) fun J=>aa k (zc k 6 [(Tm.mk F.1 F.2.1 F.2.2.1 [] F.2.2.2 []),(Tm.mk J.1 J.2.1 J.2.2.1 [] J.2.2.2 [])]) fun L=>aa k (zc k 10 [(ac W.1)]) fun M=>aa k (tO k 13 [(Cl.mk 1 0)] [(Tm.mk M.1 M.2.1 M.2.2.1 [] M.2.2.2 []),(ac bf.1),(Tm.mk L.1 L.2.1 L.2.2.1 [] L.2.2.2 [])]) fun A=>aa k (wi k T.f [(Tm.mk A.1 A.2.1 A.2.2.1 A.2.2.2.1 A.2.2.2.2 [])]) fun bn=>nW (aw 1099511627776 z.length [bn].length) fun b3=>nW (af x H0) fun b4=>nW (af x H0) fun b1=>aa k (zc k 9 [(ac b1)]) fun O=>aa k (wi k T.f [(Tm.mk O.1 O.2.1 O.2.2.1 [] O.2.2.2 [])]) fun bt=>nW (aw 1099511627776 q.length [bt].length) fun b5=>ad bh.2 ax az a6 a7 a8 bc (q++[bt]) (oa .i64 (H0+1)) x (z++[bn])) (aa k (JM k 15 z [(Tm.mk ax az a6 a7 a8 bc),(Tm.mk r6.2.2.1 r6.2.2.2.1 r6.2.2.2.2.1 r6.2.2.2.2.2.1 r6.2.2.2.2.2.2.1 r6.2.2.2.2.2.2.2)]) fun B=>aa k (JM k 17 q [(Tm.mk B.1 B.2.1 B.2.2.1 [] B.2.2.2.1 B.2.2.2.2)]) fun E=>aa k (ly k (Tm.mk E.1 E.2.1 E.2.2.1 [] E.2.2.2.1 E.2.2.2.2) ao) fun Y=>I ((ac Y.1),Y.2.1,Y.2.2.1))
def RB (k:Nat) (I:Tm×Bool×Int->OS S) (r3:Tm) (r6:Int×LB×Int×Int×BA×LC×LT×LB) (x4:Tm) (r8:Tm×Int):Nat->Int->Int->Int->BA->(LC)->(LT)->(LB)->(LB)->Int->(LT)->(LB)->OS S
 |0=>fun _ _ _ _ _ _ _ _ _ _ _=> .none
 |m+1=>fun z A B E F J L q H0 M x=>r5 k I r3 r6 x4 r8 (RB k I r3 r6 x4 r8 m) z A B E F J L q H0 M x
def az9 (k:Nat) (I:Tm×Bool×Int->OS S) (J0:Tm->(Int×LB×Int×Int×BA×LC×LT×LB)->Tm->(Tm×Int)->Int->Int->Int->BA->(LC)->(LT)->(LB)->(LB)->Int->(LT)->(LB)->OS S) (t:Tm):OS S:=aa k (Dh k (ac t)) fun r1=>ab (!(r1==0)) (I ((Tm.mk 0 0 oW [] [] []),false,r1)) (ab (!(t.k==14)) (I ((Tm.mk 0 0 oW [] [] []),false,0)) (nW (af t.c 0) fun x2=>ab (!(x2.k==16)) (I ((Tm.mk 0 0 oW [] [] []),false,0)) (dJ k (ac t) fun z=>nW (af z.c 1) fun x4=>nW (af z.c 0) fun x5=>aa k (R' k (ac x5) 0 z.r x4.k x4.n x4.name x4.r x4.c x4.s 0 0 oW [] [] [] 0 0 oW [] [] []) fun q=>nW (af z.c 0) fun L=>aa k (JI k (ac L) q.1) fun A=>ab ((A.1.c.length:Int)==1) (nW (af A.1.c 0) fun x=>aa k (k6 k A.1.s A.2 z.r x4.k x4.n x4.name x4.r x4.c x4.s q.2.1 q.2.2.1 q.2.2.2.1 q.2.2.2.2.1 q.2.2.2.2.2.1 q.2.2.2.2.2.2.1 q.2.2.2.2.2.2.2 x.k x.n x.name x.r x.c x.s) fun B=>aa k (ka k B.2 z.r x4.k x4.n x4.name x4.r x4.c x4.s q.2.1 q.2.2.1 q.2.2.2.1 q.2.2.2.2.1 q.2.2.2.2.2.1 q.2.2.2.2.2.2.1 q.2.2.2.2.2.2.2 x.k x.n x.name x.r x.c x.s) fun E=>J0 z q x4 A E.2 x.k x.n x.name x.r x.c x.s ([]:LB) 0 B.1 E.1) (aa k (k6 k A.1.s A.2 z.r x4.k x4.n x4.name x4.r x4.c x4.s q.2.1 q.2.2.1 q.2.2.2.1 q.2.2.2.2.1 q.2.2.2.2.2.1 q.2.2.2.2.2.2.1 q.2.2.2.2.2.2.2 0 0 oW [] [] []) fun F=>aa k (ka k F.2 z.r x4.k x4.n x4.name x4.r x4.c x4.s q.2.1 q.2.2.1 q.2.2.2.1 q.2.2.2.2.1 q.2.2.2.2.2.1 q.2.2.2.2.2.2.1 q.2.2.2.2.2.2.2 0 0 oW [] [] []) fun J=>J0 z q x4 A J.2 0 0 oW [] [] [] ([]:LB) 0 F.1 J.1))))
def q' (k:Nat) (t:Tm) (I:Tm×Bool×Int->OS S):OS S:=az9 k I (fun O T x4 W z A B E F J L q H0 M x=>RB k I O T x4 W k z A B E F J L q H0 M x) t
def hF (k:Nat) (t:Tm) (I:Tm×Bool×Int->OS S):OS S:=aa k (Dh k (ac t)) fun r1=>ab (!(r1==0)) (I ((Tm.mk 0 0 oW [] [] []),false,r1)) (ab (!(t.k==14)) (I ((Tm.mk 0 0 oW [] [] []),false,0)) (dJ k (ac t) fun x=>nW (af x.c 1) fun x3=>nW (af x.c 0) fun x4=>ab (x4.k==3) (aa k (ly k (ac x3) 0) fun F=>I ((ac F.1),F.2.1,F.2.2.1)) (ab (x4.k==19) (aa k (ly k (ac x3) 0) fun J=>I ((ac J.1),J.2.1,J.2.2.1)) (ab (x4.k==4) (aa k (rv k (ac x4) 0 x.r x3.k x3.n x3.name x3.r x3.c x3.s) fun B=>aa k (ly k (Tm.mk B.1 B.2.1 B.2.2.1 [] B.2.2.2.1 []) B.2.2.2.2) fun L=>I ((ac L.1),L.2.1,L.2.2.1)) (ab (x4.k==7) (aa k (xo k (ac x4) 0 x.r x3.k x3.n x3.name x3.r x3.c x3.s) fun E=>aa k (ly k (Tm.mk E.1 E.2.1 E.2.2.1 [] E.2.2.2.1 []) E.2.2.2.2) fun z=>I ((ac z.1),z.2.1,z.2.2.1)) (ab (x4.k==11) (aa k (h7 k (ac x4) 0 x.r x3.k x3.n x3.name x3.r x3.c x3.s) fun q=>aa k (ly k (Tm.mk q.1 q.2.1 q.2.2.1 [] q.2.2.2.1 []) q.2.2.2.2) fun A=>I ((ac A.1),A.2.1,A.2.2.1)) (ab (x4.k==23) (aa k (JG k (ac x)) fun r13=>I ((ac r13.1),r13.2.1,r13.2.2)) (ab (x4.k==16) (aa k (q' k (ac x)) fun r14=>I ((ac r14.1),r14.2.1,r14.2.2)) (I ((Tm.mk 0 0 oW [] [] []),false,0))))))))))
def h0 (k:Nat) (u:Tm) (uA qM qK:Int) (qJ:BA) (qI:LC) (qH:LT) (qG qR:LB) (I:LT×Int->OS S):OS S:=aa k (zb k (ac u) 1 0 uA) fun r1=>aa k (Ns k 0) fun x=>aa k (zc k 6 [(ac r1.1),(Tm.mk x.1 x.2.1 x.2.2 [] [] [])]) fun q=>I ([(Tm.mk q.1 q.2.1 q.2.2.1 [] q.2.2.2 [])],r1.2)
def b4 (k:Nat) (I:LB×Int->OS S) (nN oI:Int) (oE:BA) (oV:LC) (oT:LT) (oU nU:LB) (z:Int->Int->(LB)->OS S) (A x:Int) (q:LB):OS S:=ab (decide ((x:Int)<(nU.length:Int))) (nW (af nU x) fun x1=>nW (af x1.c 0) fun x2=>aa k (h0 k (ac x2) A nN oI oE oV oT oU nU) fun B=>aa k (wi k x1.f B.1) fun E=>nW (aw 1099511627776 q.length [E].length) fun x5=>z B.2 (oa .i64 (x+1)) (q++[E])) (I (q,A))
def mv (k:Nat) (I:LB×Int->OS S) (nN oI:Int) (oE:BA) (oV:LC) (oT:LT) (oU nU:LB):Nat->Int->Int->(LB)->OS S
 |0=>fun _ _ _=> .none
 |m+1=>fun x z q=>b4 k I nN oI oE oV oT oU nU (mv k I nN oI oE oV oT oU nU m) x z q
def aAf (k:Nat) (I:LB×Int->OS S) (J0:Int->Int->(LB)->OS S) (nV nN oI:Int) (oE:BA) (oV:LC) (oT:LT) (oU nU:LB):OS S:=J0 nV 0 ([]:LB)
def ts (k:Nat) (nV nN oI:Int) (oE:BA) (oV:LC) (oT:LT) (oU nU:LB) (I:LB×Int->OS S):OS S:=aAf k I (fun x z q=>mv k I nN oI oE oV oT oU nU k x z q) nV nN oI oE oV oT oU nU
def fc (k:Nat) (t:Tm) (nV nN oI:Int) (oE:BA) (oV:LC) (oT:LT) (oU nU:LB) (I:Int×Int×BA×LT×Int->OS S):OS S:=aa k (zb k (Tm.mk nN oI oE oV oT oU) 1 0 nV) fun r1=>aa k (Ns k 0) fun A=>aa k (zc k 6 [(ac r1.1),(Tm.mk A.1 A.2.1 A.2.2 [] [] [])]) fun x=>aa k (ts k r1.2 nN oI oE oV oT oU nU) fun B=>nW (af t.c 1) fun x5=>aa k (JM k 15 B.1 [(ac x5),(Tm.mk x.1 x.2.1 x.2.2.1 [] x.2.2.2 [])]) fun q=>aa k (zc k 5 [(Tm.mk q.1 q.2.1 q.2.2.1 [] q.2.2.2.1 q.2.2.2.2)]) fun z=>I (z.1,z.2.1,z.2.2.1,z.2.2.2,B.2)
def aza (k:Nat) (u:Tm) (c0:Int) (I:LT->OS S):OS S:=aa k (zc k c0 [(ac u)]) fun r1=>I [(Tm.mk r1.1 r1.2.1 r1.2.2.1 [] r1.2.2.2 [])]
def d' (k:Nat) (I:LB->OS S) (nV nN oI:Int) (oE:BA) (oV:LC) (oT:LT) (oU nU:LB) (c1:Int) (z:Int->(LB)->OS S) (x:Int) (q:LB):OS S:=ab (decide ((x:Int)<(nU.length:Int))) (nW (af nU x) fun x1=>nW (af x1.c 0) fun x2=>aa k (aza k (ac x2) c1) fun B=>aa k (wi k x1.f B) fun A=>nW (aw 1099511627776 q.length [A].length) fun x5=>z (oa .i64 (x+1)) (q++[A])) (I q)
def mf (k:Nat) (I:LB->OS S) (nV nN oI:Int) (oE:BA) (oV:LC) (oT:LT) (oU nU:LB) (c1:Int):Nat->Int->(LB)->OS S
 |0=>fun _ _=> .none
 |m+1=>fun x q=>d' k I nV nN oI oE oV oT oU nU c1 (mf k I nV nN oI oE oV oT oU nU c1 m) x q
def aAh (k:Nat) (I:LB->OS S) (J0:Int->(LB)->OS S) (nV nN oI:Int) (oE:BA) (oV:LC) (oT:LT) (oU nU:LB) (c1:Int):OS S:=J0 0 ([]:LB)
def z' (k:Nat) (nV nN oI:Int) (oE:BA) (oV:LC) (oT:LT) (oU nU:LB) (c1:Int) (I:LB->OS S):OS S:=aAh k I (fun x q=>mf k I nV nN oI oE oV oT oU nU c1 k x q) nV nN oI oE oV oT oU nU c1
def hU (k:Nat) (kind uA qM qK:Int) (qJ:BA) (qI:LC) (qH:LT) (qG qR:LB) (I:Int×Int×BA×LT×LB->OS S):OS S:=aa k (zc k kind [(Tm.mk qM qK qJ qI qH qG)]) fun r1=>aa k (z' k uA qM qK qJ qI qH qG qR kind) fun q=>I (r1.1,r1.2.1,r1.2.2.1,r1.2.2.2,q)
def e1 (k:Nat) (t:Tm) (nV nN oI:Int) (oE:BA) (oV:LC) (oT:LT) (oU nU:LB) (I:Int×Int×BA×LT×Int->OS S):OS S:=aa k (hU k 9 nV nN oI oE oV oT oU nU) fun r1=>aa k (hU k 10 nV nN oI oE oV oT oU nU) fun x=>nW (af t.c 0) fun x3=>aa k (y_ k (ac x3) (Tm.mk r1.1 r1.2.1 r1.2.2.1 [] r1.2.2.2.1 []) r1.2.2.2.2 nV) fun B=>nW (af t.c 1) fun x5=>aa k (Sf k (ac x5) 0 1 B.2) fun E=>aa k (za k (ac E.1) (ac B.1) E.2) fun F=>nW (af t.c 0) fun J=>aa k (JM k 15 r1.2.2.2.2 [(ac J),(Tm.mk r1.1 r1.2.1 r1.2.2.1 [] r1.2.2.2.1 [])]) fun z=>aa k (y9 k (ac F.1) (Tm.mk x.1 x.2.1 x.2.2.1 [] x.2.2.2.1 []) x.2.2.2.2 F.2) fun A=>aa k (zc k 8 [(Tm.mk z.1 z.2.1 z.2.2.1 [] z.2.2.2.1 z.2.2.2.2),(ac A.1)]) fun q=>I (q.1,q.2.1,q.2.2.1,q.2.2.2,A.2)
def s8 (k:Nat) (I:Int×Int×BA×LT×Int->OS S) (nN oI:Int) (oE:BA) (oV:LC) (oT:LT) (oU nU:LB) (t x1 x2:Tm) (r6:Int×Int×BA×LC×LT) (B:Int->(LB)->Int->OS S) (E:Int) (q:LB) (v53:Int):OS S:=ab (decide ((v53:Int)<(nU.length:Int))) (nW (af nU v53) fun Y=>aa k (JK k Y.f 1 E) fun r8=>nW (af Y.c 0) fun x9=>aa k (JJ k (ac x9) 1 r8.2) fun F=>aa k (zb k (ac x1) 0 2 F.2) fun J=>aa k (zb k (ac x2) 0 2 J.2) fun L=>aa k (tO k 13 [(Cl.mk 2 0)] [(ac F.1),(ac J.1),(ac L.1)]) fun r13=>aa k (wi k r8.1 [(Tm.mk r13.1 r13.2.1 r13.2.2.1 r13.2.2.2.1 r13.2.2.2.2 [])]) fun r14=>nW (aw 1099511627776 q.length [r14].length) fun ad=>B L.2 (q++[r14]) (oa .i64 (v53+1))) (aa k (zb k (ac x1) 0 2 E) fun M=>aa k (wi k [(Cl.mk 0 1)] [(ac M.1)]) fun A=>nW (aw 1099511627776 q.length [A].length) fun ao=>aa k (zb k (ac x2) 0 2 M.2) fun O=>aa k (wi k [(Cl.mk 1 0)] [(ac O.1)]) fun T=>nW (aw 1099511627776 (q++[A]).length [T].length) fun ax=>nW (af t.c 0) fun W=>aa k (JM k 15 ((q++[A])++[T]) [(ac W),(Tm.mk r6.1 r6.2.1 r6.2.2.1 r6.2.2.2.1 r6.2.2.2.2 [])]) fun x=>aa k (zc k 12 [(Tm.mk x.1 x.2.1 x.2.2.1 [] x.2.2.2.1 x.2.2.2.2)]) fun z=>I (z.1,z.2.1,z.2.2.1,z.2.2.2,O.2))
def jc (k:Nat) (I:Int×Int×BA×LT×Int->OS S) (nN oI:Int) (oE:BA) (oV:LC) (oT:LT) (oU nU:LB) (t x1 x2:Tm) (r6:Int×Int×BA×LC×LT):Nat->Int->(LB)->Int->OS S
 |0=>fun _ _ _=> .none
 |m+1=>fun x q v53=>s8 k I nN oI oE oV oT oU nU t x1 x2 r6 (jc k I nN oI oE oV oT oU nU t x1 x2 r6 m) x q v53
def aAe (k:Nat) (I:Int×Int×BA×LT×Int->OS S) (J0:Tm->Tm->(Int×Int×BA×LC×LT)->Int->(LB)->Int->OS S) (t:Tm) (nV nN oI:Int) (oE:BA) (oV:LC) (oT:LT) (oU nU:LB):OS S:=nW (af t.c 1) fun x1=>nW (af t.c 2) fun x2=>aa k (zb k (Tm.mk nN oI oE oV oT oU) 0 1 nV) fun q=>aa k (zb k (ac x1) 0 1 q.2) fun x=>aa k (zb k (ac x2) 0 1 x.2) fun z=>aa k (tO k 13 [(Cl.mk 1 0)] [(ac q.1),(ac x.1),(ac z.1)]) fun A=>J0 x1 x2 A z.2 ([]:LB) 0
def r' (k:Nat) (t:Tm) (nV nN oI:Int) (oE:BA) (oV:LC) (oT:LT) (oU nU:LB) (I:Int×Int×BA×LT×Int->OS S):OS S:=aAe k I (fun x1 x2 z x q v53=>jc k I nN oI oE oV oT oU nU t x1 x2 z k x q v53) t nV nN oI oE oV oT oU nU
def ia (k:Nat) (t:Tm) (c0:Int) (I:Int×Int×BA×LT×Int->OS S):OS S:=aa k (Bx k (ac t) 1 0 c0) fun r1=>aa k (Bx k (ac t) 2 1 r1.2) fun E=>aa k (Iw k 1) fun A=>aa k (Iw k 0) fun B=>aa k (wq k 11 [(ac E.1),(Tm.mk A.1 A.2.1 A.2.2 [] [] []),(Tm.mk B.1 B.2.1 B.2.2 [] [] [])]) fun q=>aa k (wq k 4 [(ac r1.1),(Tm.mk q.1 q.2.1 q.2.2.1 [] q.2.2.2 [])]) fun x=>aa k (wq k 7 [(ac t),(Tm.mk x.1 x.2.1 x.2.2.1 [] x.2.2.2 [])]) fun z=>I (z.1,z.2.1,z.2.2.1,z.2.2.2,E.2)
def hD (k:Nat) (t a:Tm) (I:Tm×Int->OS S):OS S:=aa k (m9 k [(ac t),(ac a)]) fun r1=>dJ k (ac t) fun O=>aa k (Bx k (ac a) 1 0 r1) fun F=>aa k (wq k 4 [(ac O),(ac F.1)]) fun A=>aa k (Bx k (ac a) 1 0 F.2) fun J=>aa k (Bx k (ac t) 2 0 J.2) fun L=>aa k (Bx k (ac a) 2 0 L.2) fun M=>aa k (Iw k 1) fun B=>aa k (Iw k 0) fun E=>aa k (SI k (ac L.1) (ac M.1) (Tm.mk B.1 B.2.1 B.2.2 [] [] []) (Tm.mk E.1 E.2.1 E.2.2 [] [] []) M.2) fun q=>aa k (ia k (Tm.mk q.1 q.2.1 q.2.2.1 [] q.2.2.2.1 []) q.2.2.2.2) fun x=>aa k (wq k 4 [(ac J.1),(Tm.mk x.1 x.2.1 x.2.2.1 [] x.2.2.2.1 [])]) fun z=>aa k (wq k 7 [(Tm.mk A.1 A.2.1 A.2.2.1 [] A.2.2.2 []),(Tm.mk z.1 z.2.1 z.2.2.1 [] z.2.2.2 [])]) fun r13=>aa k (eQ k (Tm.mk r13.1 r13.2.1 r13.2.2.1 [] r13.2.2.2 []) x.2.2.2.2) fun r14=>I ((ac r14.1),r14.2.1)
def h4 (k:Nat) (t a:Tm) (c0:Int) (I:Tm×Int->OS S):OS S:=aa k (dG k c0) fun r1=>ab (!r1) (I ((Tm.mk 0 0 oW [] [] []),c0)) (aa k (hD k (ac t) (ac a)) fun q=>aa k (HM k (ac q.1) q.2 c0) fun x=>I ((ac x.1),x.2))
def ay2 (k:Nat) (qT:LC) (I:Int×Int×BA×LC×LT->OS S):OS S:=aa k (Iw k 0) fun r1=>aa k (wq k 10 [(Tm.mk r1.1 r1.2.1 r1.2.2 [] [] [])]) fun q=>aa k (Iw k 1) fun z=>aa k (Iw k 0) fun A=>aa k (wq k 9 [(Tm.mk A.1 A.2.1 A.2.2 [] [] [])]) fun x=>I (13,0,oW,qT,[(Tm.mk q.1 q.2.1 q.2.2.1 [] q.2.2.2 []),(Tm.mk z.1 z.2.1 z.2.2 [] [] []),(Tm.mk x.1 x.2.1 x.2.2.1 [] x.2.2.2 [])])
def bh (k:Nat) (I:Int×Int×BA×LT->OS S):OS S:=aa k (Iw k 0) fun r1=>aa k (Iw k 0) fun T=>aa k (wq k 12 [(Tm.mk T.1 T.2.1 T.2.2 [] [] [])]) fun F=>aa k (wq k 8 [(Tm.mk r1.1 r1.2.1 r1.2.2 [] [] []),(Tm.mk F.1 F.2.1 F.2.2.1 [] F.2.2.2 [])]) fun J=>aa k (ay2 k [(Cl.mk 1 0)]) fun B=>aa k (ay2 k [(Cl.mk 3 0)]) fun E=>aa k (wq k 12 [(Tm.mk E.1 E.2.1 E.2.2.1 E.2.2.2.1 E.2.2.2.2 [])]) fun L=>aa k (wq k 8 [(Tm.mk B.1 B.2.1 B.2.2.1 B.2.2.2.1 B.2.2.2.2 []),(Tm.mk L.1 L.2.1 L.2.2.1 [] L.2.2.2 [])]) fun M=>aa k (wq k 12 [(Tm.mk M.1 M.2.1 M.2.2.1 [] M.2.2.2 [])]) fun O=>aa k (wq k 5 [(Tm.mk O.1 O.2.1 O.2.2.1 [] O.2.2.2 [])]) fun q=>aa k (Iw k 0) fun A=>aa k (wq k 5 [(Tm.mk A.1 A.2.1 A.2.2 [] [] [])]) fun x=>aa k (wq k 8 [(Tm.mk J.1 J.2.1 J.2.2.1 [] J.2.2.2 []),(Tm.mk q.1 q.2.1 q.2.2.1 [] q.2.2.2 [])]) fun r13=>aa k (wq k 5 [(Tm.mk r13.1 r13.2.1 r13.2.2.1 [] r13.2.2.2 [])]) fun r14=>aa k (wq k 8 [(Tm.mk x.1 x.2.1 x.2.2.1 [] x.2.2.2 []),(Tm.mk r14.1 r14.2.1 r14.2.2.1 [] r14.2.2.2 [])]) fun z=>I (z.1,z.2.1,z.2.2.1,z.2.2.2)
def azb (k:Nat) (u:Tm) (uA qM qK:Int) (qJ:BA) (qI:LC) (qH:LT) (qG qR:LB) (I:LT×Int->OS S):OS S:=aa k (JI k (ac u) uA) fun r1=>aa k (zb k (Tm.mk qM qK qJ qI qH qG) 0 1 r1.2) fun z=>aa k (h4 k (ac u) (ac z.1) z.2) fun A=>aa k (bh k) fun q=>aa k (zc k 14 [(ac A.1),(Tm.mk q.1 q.2.1 q.2.2.1 [] q.2.2.2 [])]) fun x=>I ([(ac r1.1),(Tm.mk x.1 x.2.1 x.2.2.1 [] x.2.2.2 [])],A.2)
def b' (k:Nat) (I:LB×Int->OS S) (nN oI:Int) (oE:BA) (oV:LC) (oT:LT) (oU nU:LB) (z:Int->Int->(LB)->OS S) (A x:Int) (q:LB):OS S:=ab (decide ((x:Int)<(nU.length:Int))) (nW (af nU x) fun x1=>nW (af x1.c 0) fun x2=>aa k (azb k (ac x2) A nN oI oE oV oT oU nU) fun B=>aa k (wi k x1.f B.1) fun E=>nW (aw 1099511627776 q.length [E].length) fun x5=>z B.2 (oa .i64 (x+1)) (q++[E])) (I (q,A))
def vx (k:Nat) (I:LB×Int->OS S) (nN oI:Int) (oE:BA) (oV:LC) (oT:LT) (oU nU:LB):Nat->Int->Int->(LB)->OS S
 |0=>fun _ _ _=> .none
 |m+1=>fun x z q=>b' k I nN oI oE oV oT oU nU (vx k I nN oI oE oV oT oU nU m) x z q
def aAg (k:Nat) (I:LB×Int->OS S) (J0:Int->Int->(LB)->OS S) (nV nN oI:Int) (oE:BA) (oV:LC) (oT:LT) (oU nU:LB):OS S:=J0 nV 0 ([]:LB)
def k' (k:Nat) (nV nN oI:Int) (oE:BA) (oV:LC) (oT:LT) (oU nU:LB) (I:LB×Int->OS S):OS S:=aAg k I (fun x z q=>vx k I nN oI oE oV oT oU nU k x z q) nV nN oI oE oV oT oU nU
def sX (k:Nat) (nV nN oI:Int) (oE:BA) (oV:LC) (oT:LT) (oU nU:LB) (I:Int×Int×BA×LT×LB×Int->OS S):OS S:=aa k (k' k nV nN oI oE oV oT oU nU) fun r1=>aa k (JM k 16 r1.1 [(Tm.mk nN oI oE oV oT oU)]) fun q=>I (q.1,q.2.1,q.2.2.1,q.2.2.2.1,q.2.2.2.2,r1.2)
def w1 (k:Nat) (sO:(Br Tm)) (c1:LB) (c2:Int) (I:(Br Tm)×Int->OS S):OS S:=aa k (zc k 3 ([]:LT)) fun r1=>aa k (Nn k (Tm.mk r1.1 r1.2.1 r1.2.2.1 [] r1.2.2.2 []) c1) fun x=>aa k (zb k (Tm.mk x.1 x.2.1 x.2.2.1 [] x.2.2.2.1 x.2.2.2.2) 0 1 c2) fun q=>nW (af sO.c 0) fun x4=>aa k (wi k sO.f [(Tm.mk q.1.k q.1.n q.1.name q.1.r [(ac x4)] q.1.s)]) fun z=>I (z,q.2)
def Hd (k:Nat) (I:LB×Int->OS S) (c1 l:LB) (x:Int->Int->(LB)->OS S) (z qk:Int) (q:LB):OS S:=ab (decide ((qk:Int)<(l.length:Int))) (nW (af l qk) fun x1=>aa k (w1 k x1 c1 z) fun A=>nW (aw 1099511627776 q.length [A.1].length) fun x3=>x A.2 (oa .i64 (qk+1)) (q++[A.1])) (I (q,z))
def qa (k:Nat) (I:LB×Int->OS S) (c1 l:LB):Nat->Int->Int->(LB)->OS S
 |0=>fun _ _ _=> .none
 |m+1=>fun x qk q=>Hd k I c1 l (qa k I c1 l m) x qk q
def aDn (k:Nat) (I:LB×Int->OS S) (J0:Int->Int->(LB)->OS S) (l c1:LB) (c2:Int):OS S:=J0 c2 0 ([]:LB)
def aAQ (k:Nat) (l c1:LB) (c2:Int) (I:LB×Int->OS S):OS S:=aDn k I (fun x qk q=>qa k I c1 l k x qk q) l c1 c2
def o' (k:Nat) (sO:(Br Tm)) (c1 c2:Tm) (c3:Int) (I:(Br Tm)×Int->OS S):OS S:=nW (af sO.c 1) fun x1=>aa k (zb k (ac x1) 0 1 c3) fun z=>aa k (No k (ac z.1)) fun q=>nW (af sO.c 0) fun x4=>aa k (y_ k (ac x4) (ac c1) c2.s z.2) fun A=>aa k (zc k 6 [(Tm.mk q.1 q.2.1 q.2.2.1 [] q.2.2.2 []),(ac A.1)]) fun x=>aa k (wi k sO.f [(Tm.mk x.1 x.2.1 x.2.2.1 [] x.2.2.2 [])]) fun B=>I (B,A.2)
def pz (k:Nat) (I:LB×Int->OS S) (c1 c2:Tm) (l:LB) (x:Int->Int->(LB)->OS S) (z qk:Int) (q:LB):OS S:=ab (decide ((qk:Int)<(l.length:Int))) (nW (af l qk) fun x1=>aa k (o' k x1 (ac c1) (ac c2) z) fun A=>nW (aw 1099511627776 q.length [A.1].length) fun x3=>x A.2 (oa .i64 (qk+1)) (q++[A.1])) (I (q,z))
def G1 (k:Nat) (I:LB×Int->OS S) (c1 c2:Tm) (l:LB):Nat->Int->Int->(LB)->OS S
 |0=>fun _ _ _=> .none
 |m+1=>fun x qk q=>pz k I c1 c2 l (G1 k I c1 c2 l m) x qk q
def aDm (k:Nat) (I:LB×Int->OS S) (J0:Int->Int->(LB)->OS S) (l:LB) (c1 c2:Tm) (c3:Int):OS S:=J0 c3 0 ([]:LB)
def bc (k:Nat) (l:LB) (c1 c2:Tm) (c3:Int) (I:LB×Int->OS S):OS S:=aDm k I (fun x qk q=>G1 k I c1 c2 l k x qk q) l c1 c2 c3
def ay6 (k:Nat) (sO:(Br Tm)) (c0 c1:Tm) (I:(Br Tm)->OS S):OS S:=nW (af sO.c 0) fun x1=>aa k (JM k 15 c0.s [(ac x1),(ac c1)]) fun q=>aa k (wi k sO.f [(Tm.mk q.1 q.2.1 q.2.2.1 [] q.2.2.2.1 q.2.2.2.2)]) fun x=>I x
def J1 (k:Nat) (I:LB->OS S) (c0 c1:Tm) (l:LB) (x:Int->(LB)->OS S) (qk:Int) (q:LB):OS S:=ab (decide ((qk:Int)<(l.length:Int))) (nW (af l qk) fun x1=>aa k (ay6 k x1 (ac c0) (ac c1)) fun z=>nW (aw 1099511627776 q.length [z].length) fun x3=>x (oa .i64 (qk+1)) (q++[z])) (I q)
def j9 (k:Nat) (I:LB->OS S) (c0 c1:Tm) (l:LB):Nat->Int->(LB)->OS S
 |0=>fun _ _=> .none
 |m+1=>fun qk q=>J1 k I c0 c1 l (j9 k I c0 c1 l m) qk q
def aAb (k:Nat) (I:LB->OS S) (J0:Int->(LB)->OS S) (l:LB) (c0 c1:Tm):OS S:=J0 0 ([]:LB)
def D3 (k:Nat) (l:LB) (c0 c1:Tm) (I:LB->OS S):OS S:=aAb k I (fun qk q=>j9 k I c0 c1 l k qk q) l c0 c1
def b5 (k:Nat) (t:Tm) (I:Tm×Bool×Int->OS S):OS S:=aa k (Dh k (ac t)) fun r1=>ab (!(r1==0)) (I ((Tm.mk 0 0 oW [] [] []),false,r1)) (ab (!(t.k==15)) (I ((Tm.mk 0 0 oW [] [] []),false,0)) (nW (af t.c 0) fun x2=>ab (!(x2.k==16)) (I ((Tm.mk 0 0 oW [] [] []),false,0)) (dJ k (ac t) fun A=>nW (af A.c 0) fun x4=>nW (af A.c 1) fun x5=>nW (af A.c 0) fun x6=>aa k (SH k (ac x6)) fun J=>aa k (aAQ k A.s J 0) fun B=>aa k (bc k x4.s (ac x5) (ac A) B.2) fun E=>nW (aw 1099511627776 B.1.length E.1.length) fun L=>nW (af x4.c 0) fun F=>aa k (Nn k (ac x5) J) fun q=>aa k (JM k 15 (B.1++E.1) [(ac F),(Tm.mk q.1 q.2.1 q.2.2.1 [] q.2.2.2.1 q.2.2.2.2)]) fun r13=>aa k (D3 k x4.s (ac A) (ac x5)) fun r14=>aa k (JM k 17 r14 [(Tm.mk r13.1 r13.2.1 r13.2.2.1 [] r13.2.2.2.1 r13.2.2.2.2)]) fun x=>aa k (ly k (Tm.mk x.1 x.2.1 x.2.2.1 [] x.2.2.2.1 x.2.2.2.2) E.2) fun z=>I ((ac z.1),z.2.1,z.2.2.1))))
def cG (k:Nat) (t:Tm) (I:Tm×Bool×Int->OS S):OS S:=aa k (Dh k (ac t)) fun r1=>ab (!(r1==0)) (I ((Tm.mk 0 0 oW [] [] []),false,r1)) (ab (!(t.k==15)) (I ((Tm.mk 0 0 oW [] [] []),false,0)) (dJ k (ac t) fun x=>nW (af x.c 1) fun x3=>nW (af x.c 0) fun x4=>ab (x4.k==4) (aa k (fc k (ac x4) 0 x3.k x3.n x3.name x3.r x3.c x3.s x.s) fun B=>aa k (ly k (Tm.mk B.1 B.2.1 B.2.2.1 [] B.2.2.2.1 []) B.2.2.2.2) fun J=>I ((ac J.1),J.2.1,J.2.2.1)) (ab (x4.k==7) (aa k (e1 k (ac x4) 0 x3.k x3.n x3.name x3.r x3.c x3.s x.s) fun E=>aa k (ly k (Tm.mk E.1 E.2.1 E.2.2.1 [] E.2.2.2.1 []) E.2.2.2.2) fun L=>I ((ac L.1),L.2.1,L.2.2.1)) (ab (x4.k==11) (aa k (r' k (ac x4) 0 x3.k x3.n x3.name x3.r x3.c x3.s x.s) fun F=>aa k (ly k (Tm.mk F.1 F.2.1 F.2.2.1 [] F.2.2.2.1 []) F.2.2.2.2) fun z=>I ((ac z.1),z.2.1,z.2.2.1)) (ab (x4.k==3) (aa k (sX k 0 x3.k x3.n x3.name x3.r x3.c x3.s x.s) fun q=>aa k (ly k (Tm.mk q.1 q.2.1 q.2.2.1 [] q.2.2.2.1 q.2.2.2.2.1) q.2.2.2.2.2) fun A=>I ((ac A.1),A.2.1,A.2.2.1)) (ab (x4.k==16) (aa k (b5 k (ac x)) fun r13=>I ((ac r13.1),r13.2.1,r13.2.2)) (I ((Tm.mk 0 0 oW [] [] []),false,0))))))))
def co (k:Nat) (I:Tm×Bool×Int->OS S) (t:Tm) (defs:List Df):OS S:=aa k (cR k defs (ac t)) fun q=>ab (q.2) (I ((ac q.1),true,0)) (I ((Tm.mk 0 0 oW [] [] []),false,0))
def bK (k:Nat) (I:Tm×Bool×Int->OS S) (t:Tm) (defs:List Df):Nat->OS S
 |0=> .none
 |_+1=>co k I t defs
def R6 (k:Nat) (I:Tm×Bool×Int->OS S) (t:Tm) (defs:List Df) (J1:OS S) (F:Int->Int->BA->(LC)->(LT)->(LB)->Int->Int->Bool->OS S) (J L:Int) (M:BA) (O:LC) (T:LT) (E:LB) (qk xo:Int) (q:Bool):OS S:=ab (decide ((xo:Int)<4)) (ab (xo==0) (aa k (H9 k (ac t)) fun x=>ab (x.2.1) (ab (x.2.1) (I ((ac x.1),x.2.1,x.2.2)) (ab (!(x.2.2==0)) (I ((ac x.1),x.2.1,x.2.2)) (J1))) (ab (!(x.2.2==0)) (ab (x.2.1) (I ((ac x.1),x.2.1,x.2.2)) (ab (!(x.2.2==0)) (I ((ac x.1),x.2.1,x.2.2)) (J1))) (F x.1.k x.1.n x.1.name x.1.r x.1.c x.1.s x.2.2 (oa .i64 (xo+1)) x.2.1))) (ab (xo==1) (aa k (tL k (ac t)) fun z=>ab (z.2.1) (ab (z.2.1) (I ((ac z.1),z.2.1,z.2.2)) (ab (!(z.2.2==0)) (I ((ac z.1),z.2.1,z.2.2)) (J1))) (ab (!(z.2.2==0)) (ab (z.2.1) (I ((ac z.1),z.2.1,z.2.2)) (ab (!(z.2.2==0)) (I ((ac z.1),z.2.1,z.2.2)) (J1))) (F z.1.k z.1.n z.1.name z.1.r z.1.c z.1.s z.2.2 (oa .i64 (xo+1)) z.2.1))) (ab (xo==2) (aa k (hF k (ac t)) fun A=>ab (A.2.1) (ab (A.2.1) (I ((ac A.1),A.2.1,A.2.2)) (ab (!(A.2.2==0)) (I ((ac A.1),A.2.1,A.2.2)) (J1))) (ab (!(A.2.2==0)) (ab (A.2.1) (I ((ac A.1),A.2.1,A.2.2)) (ab (!(A.2.2==0)) (I ((ac A.1),A.2.1,A.2.2)) (J1))) (F A.1.k A.1.n A.1.name A.1.r A.1.c A.1.s A.2.2 (oa .i64 (xo+1)) A.2.1))) (ab (xo==3) (aa k (cG k (ac t)) fun B=>ab (B.2.1) (ab (B.2.1) (I ((ac B.1),B.2.1,B.2.2)) (ab (!(B.2.2==0)) (I ((ac B.1),B.2.1,B.2.2)) (J1))) (ab (!(B.2.2==0)) (ab (B.2.1) (I ((ac B.1),B.2.1,B.2.2)) (ab (!(B.2.2==0)) (I ((ac B.1),B.2.1,B.2.2)) (J1))) (F B.1.k B.1.n B.1.name B.1.r B.1.c B.1.s B.2.2 (oa .i64 (xo+1)) B.2.1))) (ab (q) (ab (q) (I ((Tm.mk J L M O T E),q,qk)) (ab (!(qk==0)) (I ((Tm.mk J L M O T E),q,qk)) (J1))) (ab (!(qk==0)) (ab (q) (I ((Tm.mk J L M O T E),q,qk)) (ab (!(qk==0)) (I ((Tm.mk J L M O T E),q,qk)) (J1))) (F J L M O T E qk (oa .i64 (xo+1)) q))))))) (ab (q) (I ((Tm.mk J L M O T E),q,qk)) (ab (!(qk==0)) (I ((Tm.mk J L M O T E),q,qk)) (J1)))
def bH (k:Nat) (I:Tm×Bool×Int->OS S) (t:Tm) (defs:List Df):Nat->Int->Int->BA->(LC)->(LT)->(LB)->Int->Int->Bool->OS S
 |0=>fun _ _ _ _ _ _ _ _ _=> .none
 |m+1=>fun z A B E F x qk xo q=>R6 k I t defs (bK k I t defs k) (bH k I t defs m) z A B E F x qk xo q
def aAp (k:Nat) (I:Tm×Bool×Int->OS S) (J0:Int->Int->BA->(LC)->(LT)->(LB)->Int->Int->Bool->OS S) (defs:List Df) (t:Tm):OS S:=aa k (Dh k (ac t)) fun r1=>ab (!(r1==0)) (I ((Tm.mk 0 0 oW [] [] []),false,r1)) (J0 0 0 oW [] [] [] 0 0 false)
def a_ (k:Nat) (defs:List Df) (t:Tm) (I:Tm×Bool×Int->OS S):OS S:=aAp k I (fun z A B E F x qk xo q=>bH k I t defs k z A B E F x qk xo q) defs t
def W1 (k:Nat) (I:pr (Int×Int) (Tm×Bool×Int)->OS S) (nV:List Df) (nN:Int) (r1:Tm×Bool×Int):OS S:=ab (nN==0) (I (.bD (220,nN))) (I (.ok ((ac r1.1),true,oa .i64 (nN-1))))
def qn (k:Nat) (I:pr (Int×Int) (Tm×Bool×Int)->OS S) (nV:List Df) (nN:Int) (r1:Tm×Bool×Int):Nat->OS S
 |0=> .none
 |_+1=>W1 k I nV nN r1
def zl (k:Nat) (I:pr (Int×Int) (Tm×Bool×Int)->OS S) (nV:List Df) (nN:Int) (t:Tm) (r1:Tm×Bool×Int) (J1:OS S):OS S:=ab (!r1.2.1) (ab (r1.2.2==0) (I (.ok ((ac t),false,nN))) (J1)) (J1)
def azv (k:Nat) (I:pr (Int×Int) (Tm×Bool×Int)->OS S) (nV:List Df) (nN:Int) (t:Tm) (r1:Tm×Bool×Int):Nat->OS S
 |0=> .none
 |_+1=>zl k I nV nN t r1 (qn k I nV nN r1 k)
def aAi (k:Nat) (I:pr (Int×Int) (Tm×Bool×Int)->OS S) (J0:(Tm×Bool×Int)->OS S) (t:Tm) (nV:List Df) (nN:Int):OS S:=aa k (a_ k nV (ac t)) fun r1=>ab (!(r1.2.2==0)) (ab (decide ((nN:Int)>0)) (I (.bD (r1.2.2,nN))) (J0 r1)) (J0 r1)
def dy (k:Nat) (t:Tm) (nV:List Df) (nN:Int) (I:pr (Int×Int) (Tm×Bool×Int)->OS S):OS S:=aAi k I (fun r1=>azv k I nV nN t r1 k) t nV nN
def bo (k:Nat) (I:Int->OS S) (t:Tm) (v3:Int):OS S:=aa k (zA k t.k) fun r1=>ab (decide (((t.c.length:Int):Int)<r1)) (I (-1)) (I v3)
def aV (k:Nat) (I:Int->OS S) (t:Tm):Nat->Int->OS S
 |0=>fun _=> .none
 |_+1=>fun v3=>bo k I t v3
def ao (k:Nat) (I:Int->OS S) (J0:Int->OS S) (t:Tm):OS S:=ab (t.k==6) (J0 0) (ab (t.k==9) (J0 0) (ab (t.k==10) (J0 0) (ab (t.k==13) (J0 0) (ab (t.k==18) (J0 0) (ab (t.k==15) (J0 0) (ab (t.k==14) (J0 0) (ab (t.k==22) (J0 3) (ab (t.k==27) (J0 4) (J0 (-1))))))))))
def aU (k:Nat) (t:Tm) (I:Int->OS S):OS S:=ao k I (fun v3=>aV k I t k v3) t
abbrev B9 (S:Type):=Tm->Tm->(Bool->OS S)->OS S
def o4 (hd:B9 S) (k:Nat) (I:Bool->OS S) (s2 s1:LT) (q:Int->OS S) (ov:Int):OS S:=ab (decide ((ov:Int)<(s1.length:Int))) (nW (af s1 ov) fun x1=>nW (af s2 ov) fun x2=>hd (ac x1) (ac x2) fun x=>ab (!x) (I false) (q (oa .i64 (ov+1)))) (I true)
def jo (hd:B9 S) (k:Nat) (I:Bool->OS S) (s2 s1:LT):Nat->Int->OS S
 |0=>fun _=> .none
 |m+1=>fun ov=>o4 hd k I s2 s1 (jo hd k I s2 s1 m) ov
def aAm (hd:B9 S) (k:Nat) (I:Bool->OS S) (J0:Int->OS S) (s1 s2:LT):OS S:=ab (!((s1.length:Int)==(s2.length:Int))) (I false) (J0 0)
def iS (hd:B9 S) (k:Nat) (s1 s2:LT) (I:Bool->OS S):OS S:=aAm hd k I (fun ov=>jo hd k I s2 s1 k ov) s1 s2
def u2 (hd:B9 S) (k:Nat) (sO y:(Br Tm)) (I:Bool->OS S):OS S:=aa k (zz k sO.f y.f) fun r1=>ab (r1) (aa k (iS hd k sO.c y.c) fun q=>I q) (I false)
def e9 (hd:B9 S) (k:Nat) (I:Bool->OS S) (s2 s1:LB) (q:Int->OS S) (ov:Int):OS S:=ab (decide ((ov:Int)<(s1.length:Int))) (nW (af s1 ov) fun x1=>nW (af s2 ov) fun x2=>aa k (u2 hd k x1 x2) fun x=>ab (!x) (I false) (q (oa .i64 (ov+1)))) (I true)
def kx (hd:B9 S) (k:Nat) (I:Bool->OS S) (s2 s1:LB):Nat->Int->OS S
 |0=>fun _=> .none
 |m+1=>fun ov=>e9 hd k I s2 s1 (kx hd k I s2 s1 m) ov
def aAl (hd:B9 S) (k:Nat) (I:Bool->OS S) (J0:Int->OS S) (s1 s2:LB):OS S:=ab (!((s1.length:Int)==(s2.length:Int))) (I false) (J0 0)
def te (hd:B9 S) (k:Nat) (s1 s2:LB) (I:Bool->OS S):OS S:=aAl hd k I (fun ov=>kx hd k I s2 s1 k ov) s1 s2
def aAr (hd:B9 S) (k:Nat) (I:Bool->OS S) (a b:Tm):OS S:=ab (a.k==b.k) (ab (a.n==b.n) (ab (a.name==b.name) (aa k (zz k a.r b.r) fun r1=>ab (r1) (aa k (iS hd k a.c b.c) fun q=>ab (q) (aa k (te hd k a.s b.s) fun x=>I x) (I false)) (I false)) (I false)) (I false)) (I false)
def K4:Nat->Tm->Tm->(Bool->OS S)->OS S
 |0=>fun _ _ _=> .none
 |k+1=>fun a b I=>aAr (K4 k) k I a b
abbrev Mh (S:Type):=Tm->(List Df)->Int->(pr (Int×Int) (Tm×Int)->OS S)->OS S
def Nl (hd:Mh S) (k:Nat) (t:Tm) (Iq:Int) (nV:List Df) (nN:Int) (I:pr (Int×Int) (Tm×Bool×Int)->OS S):OS S:=nW (af t.c Iq) fun x1=>hd (ac x1) nV nN fun q=>pr.elim q (fun q=>nW (af t.c Iq) fun x5=>K4 k (ac q.1) (ac x5) fun z=>ab (z) (I (.ok ((ac t),false,q.2))) (nW (aw 1099511627776 0 t.c.length) fun A=>nW (af t.c Iq) fun B=>nW (af t.c Iq) fun E=>I (.ok ((Tm.mk t.k t.n t.name t.r (t.c.set (zm Iq) (ac q.1)) t.s),true,q.2)))) (fun x=>I (.bD (x.1,x.2)))
def qC (hd:Mh S) (k:Nat) (I:pr (Int×Int) (Tm×Int)->OS S) (nV:List Df) (x:Int->Tm->OS S) (J:Int) (q:Tm):OS S:=aa k (dy k (ac q) nV J) fun A=>pr.elim A (fun A=>ab (A.2.1) (x A.2.2 (ac A.1)) (aa k (aU k (ac q)) fun M=>ab (decide ((M:Int)>=0)) (aa k (Nl hd k (ac q) M nV A.2.2) fun B=>pr.elim B (fun B=>ab (B.2.1) (x B.2.2 (ac B.1)) (ab (q.k==14) (nW (af q.c 0) fun W=>ab (W.k==23) (aa k (Nl hd k (ac q) 1 nV B.2.2) fun z=>pr.elim z (fun z=>ab (z.2.1) (x z.2.2 (ac z.1)) (I (.ok ((ac q),z.2.2)))) (fun E=>I (.bD (E.1,E.2)))) (I (.ok ((ac q),B.2.2)))) (I (.ok ((ac q),B.2.2))))) (fun O=>I (.bD (O.1,O.2)))) (ab (q.k==14) (nW (af q.c 0) fun L=>ab (L.k==23) (aa k (Nl hd k (ac q) 1 nV A.2.2) fun r14=>pr.elim r14 (fun r14=>ab (r14.2.1) (x r14.2.2 (ac r14.1)) (I (.ok ((ac q),r14.2.2)))) (fun F=>I (.bD (F.1,F.2)))) (I (.ok ((ac q),A.2.2)))) (I (.ok ((ac q),A.2.2)))))) (fun T=>I (.bD (T.1,T.2)))
def MV (hd:Mh S) (k:Nat) (I:pr (Int×Int) (Tm×Int)->OS S) (nV:List Df):Nat->Int->Tm->OS S
 |0=>fun _ _=> .none
 |m+1=>fun q x=>qC hd k I nV (MV hd k I nV m) q x
def xw (hd:Mh S) (k:Nat) (I:pr (Int×Int) (Tm×Int)->OS S) (J0:Int->Tm->OS S) (t:Tm) (nV:List Df) (nN:Int):OS S:=J0 nN (ac t)
def EA:Nat->Tm->(List Df)->Int->(pr (Int×Int) (Tm×Int)->OS S)->OS S
 |0=>fun _ _ _ _=> .none
 |k+1=>fun t nV nN I=>xw (EA k) k I (fun q x=>MV (EA k) k I nV k q x) t nV nN
def N' (k:Nat) (defs:List Df) (t:Tm) (fuel:Int) (I:Tm×Int×Int->OS S):OS S:=aa k (Dh k (ac t)) fun r1=>ab (!(r1==0)) (I ((Tm.mk 0 0 oW [] [] []),0,r1)) (ab (decide ((fuel:Int)<0)) (I ((Tm.mk 0 0 oW [] [] []),0,2)) (ab (decide ((fuel:Int)>100000)) (I ((Tm.mk 0 0 oW [] [] []),0,2)) (dJ k (ac t) fun x=>EA k (ac x) defs fuel fun q=>pr.elim q (fun q=>I ((ac q.1),q.2,0)) (fun z=>I ((Tm.mk 0 0 oW [] [] []),0,z.1)))))
def Sh (k:Nat) (sO:Tm) (xw:Int) (I:pr Int Tm->OS S):OS S:=ab (!(xw==0)) (I (.bD xw)) (I (.ok (ac sO)))
def c' (k:Nat) (t:Tm) (nV:List Df) (nN:Int) (I:pr (Int×Int) (Tm×Int)->OS S):OS S:=aa k (N' k nV (ac t) nN) fun r1=>aa k (Sh k (ac r1.1) r1.2.2) fun q=>pr.elim q (fun q=>I (.ok ((ac q),r1.2.1))) (fun x=>I (.bD (x,r1.2.1)))
def pq (k:Nat) (t:Tm) (c0:Int) (I:pr Int Tm->OS S):OS S:=aa k (Sh k (ac t) c0) fun q=>pr.elim q (fun q=>I (.ok (ac q))) (fun x=>I (.bD x))
def SV (k:Nat) (t:Tm) (I:pr Int Tm->OS S):OS S:=ab (t.k==5) (nW (af t.c 0) fun x1=>I (.ok (ac x1))) (aa k (zb k (ac t) 1 0 0) fun A=>aa k (Ns k 0) fun x=>aa k (zc k 6 [(ac A.1),(Tm.mk x.1 x.2.1 x.2.2 [] [] [])]) fun q=>aa k (pq k (Tm.mk q.1 q.2.1 q.2.2.1 [] q.2.2.2 []) A.2) fun z=>pr.elim z (fun z=>I (.ok (ac z))) (fun B=>I (.bD B)))
def MI (k:Nat) (t:Tm) (kind:Int) (I:Tm->OS S):OS S:=ab (t.k==8) (nW (af t.c (oa .i64 (kind-9))) fun x1=>I (ac x1)) (aa k (zc k kind [(ac t)]) fun q=>I (Tm.mk q.1 q.2.1 q.2.2.1 [] q.2.2.2 []))
def fF (k:Nat) (t p:Tm) (I:pr Int Tm->OS S):OS S:=ab (t.k==12) (nW (af t.c 0) fun x1=>I (.ok (ac x1))) (nW (af p.c 0) fun x2=>aa k (JL k (ac x2) ([]:LC) 0) fun A=>nW (af p.c 0) fun x4=>aa k (JI k (ac x4) A.2) fun B=>aa k (zb k (ac t) 0 1 B.2) fun E=>aa k (zb k (ac A.1) 0 1 E.2) fun F=>aa k (zb k (ac B.1) 0 1 F.2) fun J=>aa k (tO k 13 [(Cl.mk 1 0)] [(ac E.1),(ac F.1),(ac J.1)]) fun x=>aa k (pq k (Tm.mk x.1 x.2.1 x.2.2.1 x.2.2.2.1 x.2.2.2.2 []) J.2) fun q=>pr.elim q (fun q=>I (.ok (ac q))) (fun z=>I (.bD z)))
def ch (k:Nat) (I:LC×Int->OS S) (l:LB) (q:Int->(LC)->OS S) (zt:Int) (v4:LC):OS S:=ab (decide ((zt:Int)<(l.length:Int))) (nW (af l zt) fun x1=>aa k (hL k v4 x1.f) fun x=>ab (!(x.2==0)) (I (([]:LC),x.2)) (q (oa .i64 (zt+1)) x.1)) (I (v4,0))
def l9 (k:Nat) (I:LC×Int->OS S) (l:LB):Nat->Int->(LC)->OS S
 |0=>fun _ _=> .none
 |m+1=>fun zt v4=>ch k I l (l9 k I l m) zt v4
def aNs (k:Nat) (I:LC×Int->OS S) (J0:Int->(LC)->OS S) (l:LB):OS S:=J0 0 []
def Lo (k:Nat) (l:LB) (I:LC×Int->OS S):OS S:=aNs k I (fun zt v4=>l9 k I l k zt v4) l
def q8 (k:Nat) (sO:LC) (xw:Int) (I:pr Int (LC)->OS S):OS S:=ab (!(xw==0)) (I (.bD xw)) (I (.ok sO))
def aNc (k:Nat) (sO y:(Br Tm)) (I:Bool->OS S):OS S:=aa k (zz k sO.f y.f) fun r1=>I r1
def xk (k:Nat) (I:Bool->OS S) (s2 s1:LB) (q:Int->OS S) (ov:Int):OS S:=ab (decide ((ov:Int)<(s1.length:Int))) (nW (af s1 ov) fun x1=>nW (af s2 ov) fun x2=>aa k (aNc k x1 x2) fun x=>ab (!x) (I false) (q (oa .i64 (ov+1)))) (I true)
def mx (k:Nat) (I:Bool->OS S) (s2 s1:LB):Nat->Int->OS S
 |0=>fun _=> .none
 |m+1=>fun ov=>xk k I s2 s1 (mx k I s2 s1 m) ov
def qk (k:Nat) (I:Bool->OS S) (J0:Int->OS S) (s1 s2:LB):OS S:=ab (!((s1.length:Int)==(s2.length:Int))) (I false) (J0 0)
def y' (k:Nat) (s1 s2:LB) (I:Bool->OS S):OS S:=qk k I (fun ov=>mx k I s2 s1 k ov) s1 s2
def az (k:Nat) (sO:Cl) (xw:Int) (I:pr Int Cl->OS S):OS S:=ab (!(xw==0)) (I (.bD xw)) (I (.ok sO))
def Z1 (k:Nat) (I:Tm×Int->OS S) (x8:Vd) (c:Cl) (r5 r6:LC) (ox:Int) (r9:List Int) (x:Tm->Int->OS S) (z:Tm->Int->OS S) (A:Tm) (v50:Int):OS S:=ab (decide ((v50:Int)<(r9.length:Int))) (nW (af r9 v50) fun E=>aa k (DF k E x8.row) fun B=>d7 k (ac A) 0 B.1 B.2 fun q=>ab (!(q.2==0)) (I ((Tm.mk 0 0 oW [] [] []),q.2)) (z (ac q.1) (oa .i64 (v50+1)))) (x (ac A) (oa .i64 (ox+1)))
def SS (k:Nat) (I:Tm×Int->OS S) (q:Tm->Int->OS S) (x8:Vd) (c:Cl) (r5 r6:LC) (ox:Int) (r9:List Int):Nat->Tm->Int->OS S
 |0=>fun _ _=> .none
 |m+1=>fun x v50=>Z1 k I x8 c r5 r6 ox r9 q (SS k I q x8 c r5 r6 ox r9 m) x v50
def xf (k:Nat) (I:Tm×Int->OS S) (c:Cl) (r5 r6:LC) (J1:Vd->Int->(List Int)->Tm->Int->OS S) (q:Tm->Int->OS S) (x:Tm) (ox:Int):OS S:=ab (decide ((ox:Int)<([(Vd.mk c.pos r5),(Vd.mk c.neg r6)].length:Int))) (nW (af [(Vd.mk c.pos r5),(Vd.mk c.neg r6)] ox) fun B=>nW (af [(Vd.mk c.pos r5),(Vd.mk c.neg r6)] ox) fun z=>vz z.set fun A=>J1 z ox A (ac x) 0) (I ((ac x),0))
def KV (k:Nat) (I:Tm×Int->OS S) (c:Cl) (r5 r6:LC):Nat->Tm->Int->OS S
 |0=>fun _ _=> .none
 |m+1=>fun x ox=>xf k I c r5 r6 (fun z ox A q v50=>SS k I (KV k I c r5 r6 m) z c r5 r6 ox A k q v50) (KV k I c r5 r6 m) x ox
def ax (k:Nat) (I:Tm×Int->OS S) (J0:(LC)->(LC)->Tm->Int->OS S) (t:Tm) (c:Cl):OS S:=aa k (Dh k (ac t)) fun r1=>ab (!(r1==0)) (I ((Tm.mk 0 0 oW [] [] []),r1)) (aa k (tC k c) fun q=>ab (!q) (I ((Tm.mk 0 0 oW [] [] []),2)) (aa k (tB k c) fun x=>ab (x) (I ((Tm.mk 0 0 oW [] [] []),2)) (dJ k (ac t) fun z=>aa k (Nu k) fun A=>aa k (tK k) fun B=>J0 A B (ac z) 0)))
def W3 (k:Nat) (t:Tm) (c:Cl) (I:Tm×Int->OS S):OS S:=ax k I (fun q x z ox=>KV k I c q x k z ox) t c
def L1 (k:Nat) (f g:LC) (I:LC×Int->OS S):OS S:=aa k (sb k [f,g]) fun r1=>ab (!(r1==0)) (I (([]:LC),r1)) (aa k (pe k f g) fun q=>I (q.1,q.2))
abbrev xX (S:Type):=Tm->Tm->(List Df)->Int->(pr (Int×Int) (Bool×Int)->OS S)->OS S
def h5 (hd:xX S) (k:Nat) (I:pr (Int×Int) (Bool×Int)->OS S) (nV:List Df) (kind:Int) (f:LC) (ov:Int) (a b:LT) (z:Int->Int->OS S) (A:Int->Cl->Int->OS S) (qE:Int) (x:Cl) (H9:Int):OS S:=ab (decide ((H9:Int)<(a.length:Int))) (nW (af a H9) fun x6=>aa k (W3 k (ac x6) x) fun O=>aa k (Sh k (ac O.1) O.2) fun F=>pr.elim F (fun F=>nW (af b H9) fun J=>aa k (W3 k (ac J) x) fun B=>aa k (Sh k (ac B.1) B.2) fun r14=>pr.elim r14 (fun r14=>hd (ac F) (ac r14) nV qE fun q=>pr.elim q (fun q=>ab (!q.1) (I (.ok (false,q.2))) (A q.2 x (oa .i64 (H9+1)))) (fun E=>I (.bD (E.1,E.2)))) (fun L=>I (.bD (L,qE)))) (fun M=>I (.bD (M,qE)))) (z qE (oa .i64 (ov+1)))
def Sb (hd:xX S) (k:Nat) (I:pr (Int×Int) (Bool×Int)->OS S) (q:Int->Int->OS S) (nV:List Df) (kind:Int) (f:LC) (ov:Int) (a b:LT):Nat->Int->Cl->Int->OS S
 |0=>fun _ _ _=> .none
 |m+1=>fun qE x H9=>h5 hd k I nV kind f ov a b q (Sb hd k I q nV kind f ov a b m) qE x H9
def fr (hd:xX S) (k:Nat) (I:pr (Int×Int) (Bool×Int)->OS S) (nV:List Df) (kind:Int) (f:LC) (a b:LT) (J1:Int->Int->Cl->Int->OS S) (z:Int->Int->OS S) (q ov:Int):OS S:=ab (decide ((ov:Int)<(f.length:Int))) (nW (af f ov) fun x1=>ab (kind==15) (aa k (yD k x1 0 1) fun A=>aa k (az k A.1 A.2) fun x=>pr.elim x (fun x=>J1 ov q x 0) (fun B=>I (.bD (B,q)))) (J1 ov q x1 0)) (I (.ok (true,q)))
def NX (hd:xX S) (k:Nat) (I:pr (Int×Int) (Bool×Int)->OS S) (nV:List Df) (kind:Int) (f:LC) (a b:LT):Nat->Int->Int->OS S
 |0=>fun _ _=> .none
 |m+1=>fun q ov=>fr hd k I nV kind f a b (fun ov qE x H9=>Sb hd k I (NX hd k I nV kind f a b m) nV kind f ov a b k qE x H9) (NX hd k I nV kind f a b m) q ov
def aNp (hd:xX S) (k:Nat) (I:pr (Int×Int) (Bool×Int)->OS S) (J0:Int->Int->OS S) (kind:Int) (f:LC) (a b:LT) (nV:List Df) (nN:Int):OS S:=J0 nN 0
def gn (hd:xX S) (k:Nat) (kind:Int) (f:LC) (a b:LT) (nV:List Df) (nN:Int) (I:pr (Int×Int) (Bool×Int)->OS S):OS S:=aNp hd k I (fun q ov=>NX hd k I nV kind f a b k q ov) kind f a b nV nN
def ds (hd:xX S) (k:Nat) (I:pr (Int×Int) (Bool×Int)->OS S) (nV:List Df) (kind:Int) (b a:LB) (x:Int->Int->OS S) (z q:Int):OS S:=ab (decide ((q:Int)<(a.length:Int))) (nW (af a q) fun A=>nW (af b q) fun E=>aa k (gn hd k kind A.f A.c E.c nV z) fun r14=>pr.elim r14 (fun r14=>ab (!r14.1) (I (.ok (false,r14.2))) (x r14.2 (oa .i64 (q+1)))) (fun B=>I (.bD (B.1,B.2)))) (I (.ok (true,z)))
def iz (hd:xX S) (k:Nat) (I:pr (Int×Int) (Bool×Int)->OS S) (nV:List Df) (kind:Int) (b a:LB):Nat->Int->Int->OS S
 |0=>fun _ _=> .none
 |m+1=>fun q x=>ds hd k I nV kind b a (iz hd k I nV kind b a m) q x
def D2 (hd:xX S) (k:Nat) (I:pr (Int×Int) (Bool×Int)->OS S) (nV:List Df) (A:(Br Tm)) (kind:Int) (b a:LB) (v55:Int) (B:Int->Int->OS S) (E:Int->Int->OS S) (s8 x:Int):OS S:=ab (decide ((x:Int)<(b.length:Int))) (nW (af b x) fun F=>aa k (L1 k A.f F.f) fun J=>aa k (q8 k J.1 J.2) fun z=>pr.elim z (fun z=>aa k (gn hd k kind z A.c F.c nV s8) fun q=>pr.elim q (fun q=>ab (!q.1) (I (.ok (false,q.2))) (E q.2 (oa .i64 (x+1)))) (fun L=>I (.bD (L.1,L.2)))) (fun M=>I (.bD (M,s8)))) (B s8 (oa .i64 (v55+1)))
def SU (hd:xX S) (k:Nat) (I:pr (Int×Int) (Bool×Int)->OS S) (q:Int->Int->OS S) (nV:List Df) (x:(Br Tm)) (kind:Int) (b a:LB) (v55:Int):Nat->Int->Int->OS S
 |0=>fun _ _=> .none
 |m+1=>fun s8 z=>D2 hd k I nV x kind b a v55 q (SU hd k I q nV x kind b a v55 m) s8 z
def fU (hd:xX S) (k:Nat) (I:pr (Int×Int) (Bool×Int)->OS S) (nV:List Df) (kind:Int) (b a:LB) (J2:(Br Tm)->Int->Int->Int->OS S) (x:Int->Int->OS S) (qE v55:Int):OS S:=ab (decide ((v55:Int)<(a.length:Int))) (nW (af a v55) fun q=>J2 q v55 qE 0) (I (.ok (true,qE)))
def Sc (hd:xX S) (k:Nat) (I:pr (Int×Int) (Bool×Int)->OS S) (nV:List Df) (kind:Int) (b a:LB):Nat->Int->Int->OS S
 |0=>fun _ _=> .none
 |m+1=>fun qE v55=>fU hd k I nV kind b a (fun q v55 s8 x=>SU hd k I (Sc hd k I nV kind b a m) nV q kind b a v55 k s8 x) (Sc hd k I nV kind b a m) qE v55
def aNo (hd:xX S) (k:Nat) (I:pr (Int×Int) (Bool×Int)->OS S) (J0:Int->Int->OS S) (J1:Int->Int->OS S) (kind:Int) (a b:LB) (nV:List Df) (nN:Int):OS S:=aa k (Lo k a) fun r1=>aa k (q8 k r1.1 r1.2) fun q=>pr.elim q (fun q=>aa k (Lo k b) fun A=>aa k (q8 k A.1 A.2) fun x=>pr.elim x (fun x=>aa k (zz k q x) fun B=>ab (!B) (I (.ok (false,nN))) (aa k (y' k a b) fun z=>ab (z) (J0 nN 0) (J1 nN 0))) (fun E=>I (.bD (E,nN)))) (fun F=>I (.bD (F,nN)))
def e8 (hd:xX S) (k:Nat) (kind:Int) (a b:LB) (nV:List Df) (nN:Int) (I:pr (Int×Int) (Bool×Int)->OS S):OS S:=aNo hd k I (fun q x=>iz hd k I nV kind b a k q x) (fun qE v55=>Sc hd k I nV kind b a k qE v55) kind a b nV nN
def Hg (hd:xX S) (k:Nat) (I:pr (Int×Int) (Bool×Int)->OS S) (nV:List Df) (r2 r5:Tm×Int) (A:Int->Int->OS S) (B q:Int):OS S:=ab (decide ((q:Int)<(r2.1.c.length:Int))) (nW (af r2.1.c q) fun J=>nW (af r5.1.c q) fun L=>hd (ac J) (ac L) nV B fun x=>pr.elim x (fun x=>ab (!x.1) (I (.ok (false,x.2))) (A x.2 (oa .i64 (q+1)))) (fun E=>I (.bD (E.1,E.2)))) (aa k (e8 hd k r2.1.k r2.1.s r5.1.s nV B) fun z=>pr.elim z (fun z=>I (.ok (z.1,z.2))) (fun F=>I (.bD (F.1,F.2))))
def fz (hd:xX S) (k:Nat) (I:pr (Int×Int) (Bool×Int)->OS S) (nV:List Df) (r2 r5:Tm×Int):Nat->Int->Int->OS S
 |0=>fun _ _=> .none
 |m+1=>fun x q=>Hg hd k I nV r2 r5 (fz hd k I nV r2 r5 m) x q
def jm (hd:xX S) (k:Nat) (I:pr (Int×Int) (Bool×Int)->OS S) (J0:(Tm×Int)->(Tm×Int)->Int->Int->OS S) (a b:Tm) (nV:List Df) (nN:Int):OS S:=ab (nN==0) (I (.bD (220,nN))) (aa k (c' k (ac a) nV (oa .i64 (nN-1))) fun x=>pr.elim x (fun x=>aa k (c' k (ac b) nV x.2) fun q=>pr.elim q (fun q=>ab (x.1.k==5) (aa k (SV k (ac x.1)) fun r8=>pr.elim r8 (fun r8=>aa k (SV k (ac q.1)) fun O=>pr.elim O (fun O=>hd (ac r8) (ac O) nV q.2 fun r14=>pr.elim r14 (fun r14=>I (.ok (r14.1,r14.2))) (fun ao=>I (.bD (ao.1,ao.2)))) (fun bn=>I (.bD (bn,q.2)))) (fun e9=>I (.bD (e9,q.2)))) (ab (q.1.k==5) (aa k (SV k (ac x.1)) fun T=>pr.elim T (fun T=>aa k (SV k (ac q.1)) fun W=>pr.elim W (fun W=>hd (ac T) (ac W) nV q.2 fun B=>pr.elim B (fun B=>I (.ok (B.1,B.2))) (fun ax=>I (.bD (ax.1,ax.2)))) (fun bt=>I (.bD (bt,q.2)))) (fun bz=>I (.bD (bz,q.2)))) (ab (x.1.k==8) (aa k (MI k (ac x.1) 9) fun b0=>aa k (MI k (ac q.1) 9) fun b1=>hd (ac b0) (ac b1) nV q.2 fun z=>pr.elim z (fun z=>ab (z.1) (aa k (MI k (ac x.1) 10) fun b2=>aa k (MI k (ac q.1) 10) fun b3=>hd (ac b2) (ac b3) nV z.2 fun E=>pr.elim E (fun E=>I (.ok (E.1,E.2))) (fun az=>I (.bD (az.1,az.2)))) (I (.ok (false,z.2)))) (fun a6=>I (.bD (a6.1,a6.2)))) (ab (q.1.k==8) (aa k (MI k (ac x.1) 9) fun b4=>aa k (MI k (ac q.1) 9) fun b5=>hd (ac b4) (ac b5) nV q.2 fun A=>pr.elim A (fun A=>ab (A.1) (aa k (MI k (ac x.1) 10) fun b6=>aa k (MI k (ac q.1) 10) fun b7=>hd (ac b6) (ac b7) nV A.2 fun F=>pr.elim F (fun F=>I (.ok (F.1,F.2))) (fun a7=>I (.bD (a7.1,a7.2)))) (I (.ok (false,A.2)))) (fun a8=>I (.bD (a8.1,a8.2)))) (ab (x.1.k==12) (nW (af x.1.c 0) fun ch=>aa k (fF k (ac q.1) (ac x.1)) fun Y=>pr.elim Y (fun Y=>hd (ac ch) (ac Y) nV q.2 fun J=>pr.elim J (fun J=>I (.ok (J.1,J.2))) (fun bc=>I (.bD (bc.1,bc.2)))) (fun cu=>I (.bD (cu,q.2)))) (ab (q.1.k==12) (aa k (fF k (ac x.1) (ac q.1)) fun ad=>pr.elim ad (fun ad=>nW (af q.1.c 0) fun cx=>hd (ac ad) (ac cx) nV q.2 fun L=>pr.elim L (fun L=>I (.ok (L.1,L.2))) (fun bf=>I (.bD (bf.1,bf.2)))) (fun cy=>nW (af q.1.c 0) fun dh=>I (.bD (cy,q.2)))) (ab (!(x.1.k==q.1.k)) (I (.ok (false,q.2))) (ab (!(x.1.n==q.1.n)) (I (.ok (false,q.2))) (ab (!(x.1.name==q.1.name)) (I (.ok (false,q.2))) (aa k (zz k x.1.r q.1.r) fun c5=>ab (!c5) (I (.ok (false,q.2))) (ab (x.1.k==13) (nW (af x.1.c 0) fun c9=>nW (af q.1.c 0) fun dd=>hd (ac c9) (ac dd) nV q.2 fun M=>pr.elim M (fun M=>I (.ok (M.1,M.2))) (fun bh=>I (.bD (bh.1,bh.2)))) (J0 x q q.2 0)))))))))))) (fun e6=>I (.bD (e6.1,e6.2)))) (fun e3=>I (.bD (e3.1,e3.2))))
def BB:Nat->Tm->Tm->(List Df)->Int->(pr (Int×Int) (Bool×Int)->OS S)->OS S
 |0=>fun _ _ _ _ _=> .none
 |k+1=>fun a b nV nN I=>jm (BB k) k I (fun z A x q=>fz (BB k) k I nV z A k x q) a b nV nN
def sq (k:Nat) (I:Bool×Int×Int->OS S) (a b:Tm) (defs:List Df) (fuel:Int) (x:Int->OS S) (q:Int):OS S:=ab (decide ((q:Int)<([(ac a),(ac b)].length:Int))) (nW (af [(ac a),(ac b)] q) fun x1=>nW (af [(ac a),(ac b)] q) fun x2=>aa k (Dh k (ac x2)) fun A=>ab (!(A==0)) (I (false,0,A)) (x (oa .i64 (q+1)))) (ab (decide ((fuel:Int)<0)) (I (false,0,2)) (ab (decide ((fuel:Int)>100000)) (I (false,0,2)) (BB k (ac a) (ac b) defs fuel fun z=>pr.elim z (fun z=>I (z.1,z.2,0)) (fun B=>I (false,0,B.1)))))
def MH (k:Nat) (I:Bool×Int×Int->OS S) (a b:Tm) (defs:List Df) (fuel:Int):Nat->Int->OS S
 |0=>fun _=> .none
 |m+1=>fun q=>sq k I a b defs fuel (MH k I a b defs fuel m) q
def aNn (k:Nat) (I:Bool×Int×Int->OS S) (J0:Int->OS S) (defs:List Df) (a b:Tm) (fuel:Int):OS S:=J0 0
def SX (k:Nat) (defs:List Df) (a b:Tm) (fuel:Int) (I:Bool×Int×Int->OS S):OS S:=aNn k I (fun q=>MH k I a b defs fuel k q) defs a b fuel
def ih (k:Nat) (I:Bool->OS S):OS S:=aa k (F6 k 1 ([]:LT)) fun r1=>aa k (F6 k 6 [(Tm.mk 1 1 oW [] [] []),(Tm.mk r1.1 r1.2.1 r1.2.2.1 [] r1.2.2.2 [])]) fun q=>aa k (F6 k 5 [(Tm.mk q.1 q.2.1 q.2.2.1 [] q.2.2.2 [])]) fun x=>aa k (SX k ([]:List Df) (Tm.mk x.1 x.2.1 x.2.2.1 [] x.2.2.2 []) (Tm.mk r1.1 r1.2.1 r1.2.2.1 [] r1.2.2.2 []) 9) fun B=>aa k (F6 k 3 ([]:LT)) fun z=>aa k (F6 k 19 ([]:LT)) fun A=>aa k (SX k ([]:List Df) (Tm.mk z.1 z.2.1 z.2.2.1 [] z.2.2.2 []) (Tm.mk A.1 A.2.1 A.2.2.1 [] A.2.2.2 []) 9) fun E=>ab (B.1) (ab (B.2.2==0) (ab (!E.1) (I (E.2.2==0)) (I false)) (I false)) (I false)
abbrev gY (S:Type):=Tm->Int->(Int->OS S)->OS S
def xL (hd:gY S) (k:Nat) (I:Int->OS S) (t:Tm) (ot i7:Int) (x:Int->Int->OS S) (z:Int->Int->OS S) (q A:Int):OS S:=nW (af t.s i7) fun x5=>ab (decide ((A:Int)<(x5.c.length:Int))) (ab (decide ((q:Int)<=ot)) (nW (af t.s i7) fun x6=>nW (af x6.c A) fun B=>hd (ac B) (oa .i64 (ot-q)) fun E=>z (oa .i64 (q+E)) (oa .i64 (A+1))) (x q (oa .i64 (i7+1)))) (x q (oa .i64 (i7+1)))
def kA (hd:gY S) (k:Nat) (I:Int->OS S) (q:Int->Int->OS S) (t:Tm) (ot i7:Int):Nat->Int->Int->OS S
 |0=>fun _ _=> .none
 |m+1=>fun x z=>xL hd k I t ot i7 q (kA hd k I q t ot i7 m) x z
def sS (hd:gY S) (k:Nat) (I:Int->OS S) (t:Tm) (ot:Int) (J2:Int->Int->Int->OS S) (x:Int->Int->OS S) (q i7:Int):OS S:=ab (decide ((i7:Int)<(t.s.length:Int))) (ab (decide ((q:Int)<=ot)) (nW (af t.s i7) fun x3=>ab (decide (((x3.f.length:Int):Int)>ot)) (I (oa .i64 (ot+1))) (nW (af t.s i7) fun x4=>J2 i7 (oa .i64 ((oa .i64 (q+1))+(x4.f.length:Int))) 0)) (I q)) (I q)
def jl (hd:gY S) (k:Nat) (I:Int->OS S) (t:Tm) (ot:Int):Nat->Int->Int->OS S
 |0=>fun _ _=> .none
 |m+1=>fun x i7=>sS hd k I t ot (fun i7 q z=>kA hd k I (jl hd k I t ot m) t ot i7 k q z) (jl hd k I t ot m) x i7
def l0 (hd:gY S) (k:Nat) (I:Int->OS S) (t:Tm) (ot:Int) (J1:Int->Int->OS S) (q:Int->Int->OS S) (v5 i6:Int):OS S:=ab (decide ((i6:Int)<(t.c.length:Int))) (ab (decide ((v5:Int)<=ot)) (nW (af t.c i6) fun x1=>hd (ac x1) (oa .i64 (ot-v5)) fun x=>q (oa .i64 (v5+x)) (oa .i64 (i6+1))) (J1 v5 0)) (J1 v5 0)
def nQ (hd:gY S) (k:Nat) (I:Int->OS S) (t:Tm) (ot:Int):Nat->Int->Int->OS S
 |0=>fun _ _=> .none
 |m+1=>fun v5 i6=>l0 hd k I t ot (fun q i7=>jl hd k I t ot k q i7) (nQ hd k I t ot m) v5 i6
def Io (hd:gY S) (k:Nat) (I:Int->OS S) (J0:Int->Int->OS S) (t:Tm) (ot:Int):OS S:=ab (decide (((t.r.length:Int):Int)>ot)) (I (oa .i64 (ot+1))) (ab (decide (((t.name.size:Int):Int)>ot)) (I (oa .i64 (ot+1))) (J0 (oa .i64 ((oa .i64 (1+(t.r.length:Int)))+(t.name.size:Int))) 0))
def gE:Nat->Tm->Int->(Int->OS S)->OS S
 |0=>fun _ _ _=> .none
 |k+1=>fun t ot I=>Io (gE k) k I (fun v5 i6=>nQ (gE k) k I t ot k v5 i6) t ot
def A' (k:Nat) (t:Tm) (I:Bool->OS S):OS S:=gE k (ac t) 60 fun r1=>I (decide ((r1:Int)>60))
def lo (k:Nat) (t:Tm) (I:Bool->OS S):OS S:=gE k (ac t) 100 fun r1=>I (decide ((r1:Int)>100))
def bt (k:Nat) (I:Bool->OS S) (l:List Df) (q:Int->OS S) (qk:Int):OS S:=ab (decide ((qk:Int)<(l.length:Int))) (nW (af l qk) fun x1=>aa k (lo k (ac x1.body)) fun x=>ab (x) (I true) (ab (decide (((x1.name.size:Int):Int)>50)) (I true) (q (oa .i64 (qk+1))))) (I false)
def Sw (k:Nat) (I:Bool->OS S) (l:List Df):Nat->Int->OS S
 |0=>fun _=> .none
 |m+1=>fun qk=>bt k I l (Sw k I l m) qk
def aAk (k:Nat) (I:Bool->OS S) (J0:Int->OS S) (l:List Df):OS S:=ab (decide (((l.length:Int):Int)>8)) (I true) (J0 0)
def kl (k:Nat) (l:List Df) (I:Bool->OS S):OS S:=aAk k I (fun qk=>Sw k I l k qk) l
def x8 (k:Nat) (I:List Df->OS S) (l:List Df) (x:(List Df)->Int->OS S) (q:List Df) (z:Int):OS S:=ab (decide ((z:Int)<(l.length:Int))) (nW (af l z) fun x1=>nW (aw 1099511627776 q.length [(q3 x1)].length) fun x2=>x (q++[(q3 x1)]) (oa .i64 (z+1))) (I q)
def zs (k:Nat) (I:List Df->OS S) (l:List Df):Nat->(List Df)->Int->OS S
 |0=>fun _ _=> .none
 |m+1=>fun q x=>x8 k I l (zs k I l m) q x
def aAj (k:Nat) (I:List Df->OS S) (J0:(List Df)->Int->OS S) (l:List Df):OS S:=J0 ([]:List Df) 0
def L' (k:Nat) (l:List Df) (I:List Df->OS S):OS S:=aAj k I (fun q x=>zs k I l k q x) l
def et (k:Nat) (qm:Int) (I:Int->OS S):OS S:=ab (decide ((qm:Int)<0)) (I qm) (ab (decide ((qm:Int)>100000)) (I qm) (I (Int.tmod qm 60)))
def r9 (k:Nat) (I:Bool->OS S) (q tf r13 r14 x z A B E F J L:Int×Int×BA×LT) (Y:List Df) (O:Int->OS S) (M:Int):OS S:=ab (decide ((M:Int)<([(Pt.mk (Tm.mk q.1 q.2.1 q.2.2.1 [] q.2.2.2 []) (Tm.mk tf.1 tf.2.1 tf.2.2.1 [] tf.2.2.2 [])),(Pt.mk (Tm.mk r13.1 r13.2.1 r13.2.2.1 [] r13.2.2.2 []) (Tm.mk r14.1 r14.2.1 r14.2.2.1 [] r14.2.2.2 [])),(Pt.mk (Tm.mk x.1 x.2.1 x.2.2.1 [] x.2.2.2 []) (Tm.mk z.1 z.2.1 z.2.2.1 [] z.2.2.2 [])),(Pt.mk (Tm.mk A.1 A.2.1 A.2.2.1 [] A.2.2.2 []) (Tm.mk B.1 B.2.1 B.2.2.1 [] B.2.2.2 [])),(Pt.mk (Tm.mk E.1 E.2.1 E.2.2.1 [] E.2.2.2 []) (Tm.mk F.1 F.2.1 F.2.2.1 [] F.2.2.2 [])),(Pt.mk (Tm.mk J.1 J.2.1 J.2.2.1 [] J.2.2.2 []) (Tm.mk L.1 L.2.1 L.2.2.1 [] L.2.2.2 []))].length:Int))) (nW (af [(Pt.mk (Tm.mk q.1 q.2.1 q.2.2.1 [] q.2.2.2 []) (Tm.mk tf.1 tf.2.1 tf.2.2.1 [] tf.2.2.2 [])),(Pt.mk (Tm.mk r13.1 r13.2.1 r13.2.2.1 [] r13.2.2.2 []) (Tm.mk r14.1 r14.2.1 r14.2.2.1 [] r14.2.2.2 [])),(Pt.mk (Tm.mk x.1 x.2.1 x.2.2.1 [] x.2.2.2 []) (Tm.mk z.1 z.2.1 z.2.2.1 [] z.2.2.2 [])),(Pt.mk (Tm.mk A.1 A.2.1 A.2.2.1 [] A.2.2.2 []) (Tm.mk B.1 B.2.1 B.2.2.1 [] B.2.2.2 [])),(Pt.mk (Tm.mk E.1 E.2.1 E.2.2.1 [] E.2.2.2 []) (Tm.mk F.1 F.2.1 F.2.2.1 [] F.2.2.2 [])),(Pt.mk (Tm.mk J.1 J.2.1 J.2.2.1 [] J.2.2.2 []) (Tm.mk L.1 L.2.1 L.2.2.1 [] L.2.2.2 []))] M) fun ad=>nW (af [(Pt.mk (Tm.mk q.1 q.2.1 q.2.2.1 [] q.2.2.2 []) (Tm.mk tf.1 tf.2.1 tf.2.2.1 [] tf.2.2.2 [])),(Pt.mk (Tm.mk r13.1 r13.2.1 r13.2.2.1 [] r13.2.2.2 []) (Tm.mk r14.1 r14.2.1 r14.2.2.1 [] r14.2.2.2 [])),(Pt.mk (Tm.mk x.1 x.2.1 x.2.2.1 [] x.2.2.2 []) (Tm.mk z.1 z.2.1 z.2.2.1 [] z.2.2.2 [])),(Pt.mk (Tm.mk A.1 A.2.1 A.2.2.1 [] A.2.2.2 []) (Tm.mk B.1 B.2.1 B.2.2.1 [] B.2.2.2 [])),(Pt.mk (Tm.mk E.1 E.2.1 E.2.2.1 [] E.2.2.2 []) (Tm.mk F.1 F.2.1 F.2.2.1 [] F.2.2.2 [])),(Pt.mk (Tm.mk J.1 J.2.1 J.2.2.1 [] J.2.2.2 []) (Tm.mk L.1 L.2.1 L.2.2.1 [] L.2.2.2 []))] M) fun T=>nW (bR (0<=0/\0<(2:Int))) fun ao=>nW (bR (0<=1/\1<(2:Int))) fun ax=>aa k (SX k Y (ac T.a) (ac T.b) 200) fun W=>ab (W.2.2==0) (ab (!W.1) (I false) (O (oa .i64 (M+1)))) (O (oa .i64 (M+1)))) (I true)
def qp (k:Nat) (I:Bool->OS S) (q tf r13 r14 x z A B E F J L:Int×Int×BA×LT) (O:List Df):Nat->Int->OS S
 |0=>fun _=> .none
 |m+1=>fun M=>r9 k I q tf r13 r14 x z A B E F J L O (qp k I q tf r13 r14 x z A B E F J L O m) M
def bf (k:Nat) (I:Bool->OS S) (J0:(Int×Int×BA×LT)->(Int×Int×BA×LT)->(Int×Int×BA×LT)->(Int×Int×BA×LT)->(Int×Int×BA×LT)->(Int×Int×BA×LT)->(Int×Int×BA×LT)->(Int×Int×BA×LT)->(Int×Int×BA×LT)->(Int×Int×BA×LT)->(Int×Int×BA×LT)->(Int×Int×BA×LT)->(List Df)->Int->OS S) (defs:List Df) (a b c:Tm) (fuel:Int):OS S:=aa k (ih k) fun r1=>ab (!r1) (I false) (aa k (A' k (ac a)) fun Y=>ab (Y) (I true) (aa k (A' k (ac b)) fun r3=>ab (r3) (I true) (aa k (A' k (ac c)) fun r4=>ab (r4) (I true) (aa k (kl k defs) fun r5=>ab (r5) (I true) (aa k (Dh k (ac c)) fun r6=>ab (!(r6==0)) (I true) (aa k (L' k defs) fun T=>aa k (et k fuel) fun r8=>aa k (SX k T (ac a) (ac b) r8) fun W=>ab (!(W.2.2==0)) (I true) (ab (!W.1) (I true) (aa k (F6 k 1 ([]:LT)) fun q=>aa k (F6 k 5 [(ac a)]) fun x=>aa k (F6 k 5 [(ac b)]) fun z=>aa k (F6 k 8 [(ac a),(ac c)]) fun r13=>aa k (F6 k 8 [(ac b),(ac c)]) fun r14=>aa k (F6 k 8 [(ac c),(ac a)]) fun A=>aa k (F6 k 8 [(ac c),(ac b)]) fun B=>aa k (F6 k 12 [(ac a)]) fun E=>aa k (F6 k 12 [(ac b)]) fun F=>aa k (F6 k 6 [(Tm.mk q.1 q.2.1 q.2.2.1 [] q.2.2.2 []),(ac a)]) fun J=>aa k (F6 k 6 [(Tm.mk q.1 q.2.1 q.2.2.1 [] q.2.2.2 []),(ac b)]) fun L=>aa k (F6 k 23 [(ac a)]) fun M=>aa k (F6 k 23 [(ac b)]) fun O=>J0 x z r13 r14 A B E F J L M O T 0))))))))
def hR (k:Nat) (defs:List Df) (a b c:Tm) (fuel:Int) (I:Bool->OS S):OS S:=bf k I (fun x z r13 r14 A B E F J L M O T q=>qp k I x z r13 r14 A B E F J L M O T k q) defs a b c fuel
end
end
section
abbrev xA:Nat:=16777215
theorem N4 {n:Nat} (h:n<24):2^n<4294967296:=Nat.lt_of_lt_of_le (Nat.pow_lt_pow_right (by decide) h) (by decide)
theorem Dt (n:Nat):(2:Int)^n=((2^n:Nat):Int):=by simp
theorem Es (m n:Nat):Int.fdiv (m:Int) ((2:Int)^n)=((m/2^n:Nat):Int):=by
 grind
variable {S:Type} {k:Nat}
theorem BM (hk:Fu k) (i:Int) (I:Bool->OS S):nd k i I=I (decide (0<=i/\i<24)):=by
 grind [nd,aY]
theorem akm (hk:Fu k) {m:Nat} (x:m<4294967296) (I:Bool->OS S):pm k (m:Int) I=I (decide (m<16777216)):=by
 simp only [pm]
 rw [show (16777215:Int)=((16777215:Nat):Int) from rfl,C_ x (by decide)]
 congr 1
 rw [Bool.eq_iff_iff]
 simp only [beq_iff_eq,decide_eq_true_eq]
 have key:dL m 16777215=0↔m<16777216:=by
  constructor
  ·intro h
   apply Nat.lt_pow_two_of_testBit (n:=24)
   intro i q
   have h2:=mm m 16777215 i
   rw [h,Nat.zero_testBit] at h2
   have:(16777215:Nat).testBit i=false:=Nat.testBit_lt_two_pow (Nat.lt_of_lt_of_le (by decide:16777215<2^24) (Nat.pow_le_pow_right (by decide) q))
   grind
  ·intro h
   apply Nat.eq_of_testBit_eq
   intro i
   rw [mm,Nat.zero_testBit]
   by_cases q:i<24
   ·have:(16777215:Nat).testBit i=true:=by
     rw [show (16777215:Nat)=2^24-1 from rfl,Nat.testBit_two_pow_sub_one];grind
    grind
   ·have h2:(2:Nat)^24<=2^i:=Nat.pow_le_pow_right (by decide) (by omega)
    grind [Nat.testBit_lt_two_pow]
 omega
theorem akk (hk:Fu k) {m:Nat} (q:m<4294967296) (i:Int) (I:Bool->OS S):Mk k (m:Int) i I=I (decide (0<=i/\i<24)&&m.testBit i.toNat):=by
 simp only [Mk,BM hk,ag hk]
 by_cases h:0<=i/\i<24
 ·obtain ⟨n,rfl⟩: ∃n:Nat,i=n:=⟨i.toNat,by omega⟩
  have hn:n<24:=by omega
  rw [decide_eq_true h,ae,Bool.true_and,iR n (by omega),fN _ (by omega)]
  congr 1
  rw [EJ,Nat.min_eq_left (by omega),Es,show (1:Int)=((1:Nat):Int) from rfl,lj (Nat.lt_of_le_of_lt (Nat.div_le_self _ _) q) (by decide)]
  grind
 grind [n3]
theorem akn (hk:Fu k) {m:Nat} (q:m<4294967296) (i:Int) (I:Int->OS S):i_ k (m:Int) i I=I (if 0<=i/\i<24 then (((m&&&xA)|||2^i.toNat:Nat):Int) else ((m&&&xA:Nat):Int)):=by
 simp only [i_,BM hk,ag hk]
 have hand:bj .and .u32 (m:Int) 16777215=((m&&&xA:Nat):Int):=lj q (by decide:(16777215:Nat)<4294967296)
 have x:m&&&xA<4294967296:=b7 (n:=32) q
 rw [hand]
 by_cases h:0<=i/\i<24
 ·obtain ⟨n,rfl⟩: ∃n:Nat,i=n:=⟨i.toNat,by omega⟩
  grind [iR,n3,fN,EJ,ld,N4,wK]
 ·rw [decide_eq_false h,if_neg h];rfl
theorem ako (hk:Fu k) {m:Nat} (q:m<4294967296) (i:Int) (I:Int->OS S):jX k (m:Int) i I=I (if 0<=i/\i<24 then ((dL (m&&&xA) (2^i.toNat):Nat):Int) else ((m&&&xA:Nat):Int)):=by
 simp only [jX,BM hk,ag hk]
 have hand:bj .and .u32 (m:Int) 16777215=((m&&&xA:Nat):Int):=lj q (by decide:(16777215:Nat)<4294967296)
 have x:m&&&xA<4294967296:=b7 (n:=32) q
 rw [hand]
 by_cases h:0<=i/\i<24
 ·grind [iR,n3,fN,EJ,ld,N4,C_]
 ·rw [decide_eq_false h,if_neg h];rfl
theorem R5 (hk:Fu k) (n:Nat) (hn:n<18446744073709551616) (I:Int->OS S):pn k (n:Int) I=I ((2^min n 24-1:Nat):Int):=by
 simp only [pn]
 have e:(if (24:Int)<(n:Int) then (24:Int) else (n:Int))=((min n 24:Nat):Int):=by
  omega
 rw [e,iR _ (by omega),fN _ (by omega),EJ]
 congr 1
 generalize z:min n 24=q
 have x:q<=24:=by omega
 rw [Nat.min_eq_left (by omega),Int.one_mul,Dt]
 have h1:2^q<=2^24:=Nat.pow_le_pow_right (by decide) x
 grind [iR,ld]
def gO (m n:Nat):Nat:=(m&&&xA)&&&(2^min n 24-1)
def dl (m n:Nat):Nat:=dL (m&&&xA) (2^min n 24-1)
def LV (m n b:Nat):Nat×Nat:=
 if dl m n=0 then (gO m n,0) else if 24<=b then (0,10) else if dl m n*2^b>16777215 then (0,10) else (gO m n|||(dl m n*2^b),0)
theorem akl (hk:Fu k) {m:Nat} (J:m<4294967296) (n b:Nat) (hn:n<9223372036854775808) (hb:b<9223372036854775808) (I:Int×Int->OS S):
  lx k (m:Int) (n:Int) (b:Int) I=I (((LV m n b).1:Int),((LV m n b).2:Int)):=by
 have hand:bj .and .u32 (m:Int) 16777215=((m&&&xA:Nat):Int):=lj J (by decide:(16777215:Nat)<4294967296)
 have A:m&&&xA<16777216:=Nat.lt_of_le_of_lt Nat.and_le_right (by decide)
 have x:2^min n 24-1<4294967296:=by
  have:2^min n 24<=2^24:=Nat.pow_le_pow_right (by decide) (by omega)
  omega
 have B:dl m n<16777216:=vq (n:=24) A
 have z:bj .and .u32 ((m&&&xA:Nat):Int) ((2^min n 24-1:Nat):Int)=((gO m n:Nat):Int):=lj (by omega) x
 have q:bj .andNot .u32 ((m&&&xA:Nat):Int) ((2^min n 24-1:Nat):Int)=((dl m n:Nat):Int):=C_ (by omega) x
 simp only [lx]
 rw [aY,aY,if_neg (by omega),if_neg (by omega)]
 simp only [R5 hk n (by omega),ag hk,hand,z,q]
 rw [iR _ (by omega)]
 unfold LV
 by_cases L:dl m n=0
 ·grind [ae]
 ·rw [if_neg L]
  have E:(((dl m n:Nat):Int)==0)=false:=by
   grind
  simp only [E,n3,aY]
  by_cases F:24<=b
  ·grind
  ·rw [if_neg (by omega),if_neg F,iR b (by omega),fN _ (by omega),EJ,Nat.min_eq_left (by omega),Dt]
   have hp:2^b<=2^23:=Nat.pow_le_pow_right (by decide) (by omega)
   have M:(2:Nat)^23=8388608:=by decide
   have hmul:dl m n*2^b<18446744073709551616:=by
    have:=Nat.mul_le_mul (Nat.le_of_lt B) hp
    omega
   have O:((dl m n:Nat):Int)*((2^b:Nat):Int)=((dl m n*2^b:Nat):Int):=by simp
   rw [O,iR _ hmul]
   by_cases T:dl m n*2^b>16777215
   ·grind
   ·rw [if_neg (by omega),if_neg T]
    rw [ld _ (by omega),fN _ (by omega),wK (by grind [gO,Nat.and_le_left]) (by omega)]
    rfl
variable {S:Type} {k:Nat}
def RQ (l:List Nat):Nat:=(l.map (2^ ·)).sum
theorem Zr {x a:Nat} (h:x.testBit a=false):x+2^a=x|||2^a:=by
 have h1:x=2^(a+1)*(x/2^(a+1))+x%2^(a+1):=(Nat.div_add_mod _ _).symm
 have z:x%2^(a+1)<2^a:=by
  have hb:(x%2^(a+1)).testBit a=false:=by grind
  grind [Nat.lt_pow_two_of_testBit,Nat.testBit_lt_two_pow]
 generalize x/2^(a+1)=q at h1
 generalize x%2^(a+1)=r at h1 z
 have hp:(2:Nat)^(a+1)=2^a*2:=Nat.pow_succ 2 a
 have A:2^a+r=2^a|||r:=by
  have:=Nat.two_pow_add_eq_or_of_lt z 1
  grind
 have B:x=2^(a+1)*q|||r:=by grind [Nat.two_pow_add_eq_or_of_lt]
 grind [Nat.two_pow_add_eq_or_of_lt]
theorem oG: ∀ (l:List Nat),l.Nodup-> ∀j,(RQ l).testBit j=decide (j∈l):=by
 intro l
 induction l with
 |nil=>grind [RQ]
 |cons a l x=>
  intro hn j
  have q:=List.nodup_cons.1 hn
  have ha:(RQ l).testBit a=false:=by grind
  have e:RQ (a::l)=RQ l|||2^a:=by
   grind [Zr,RQ]
  grind
def bW (m:Nat):List Nat:=(BT 24).filter m.testBit
theorem oY (m:Nat):(bW m).Nodup:=List.nodup_range.filter _
theorem sP {m j:Nat}:j∈bW m↔j<24/\m.testBit j=true:=by simp [bW]
theorem gu (m:Nat):(bW m).length<=24:=by
 grind [bW]
theorem g8 (j:Nat):xA.testBit j=decide (j<24):=by
 rw [show xA=2^24-1 from rfl,Nat.testBit_two_pow_sub_one]
def ints (l:List Nat):List Int:=l.map Int.ofNat
theorem amb (l:List Nat):(ints l).length=l.length:=by simp [ints]
theorem uB {α:Type} (p r:List α) (x:α):af (p++x::r) (p.length:Int)=some x:=by simp [af]
theorem oZ {m:Nat} (h:m<16777216) {j:Nat} (hj:m.testBit j=true):j<24:=by
 apply Classical.byContradiction
 intro hn
 have:m<2^j:=Nat.lt_of_lt_of_le h (Nat.pow_le_pow_right (n:=2) (i:=24) (j:=j) (by decide) (by omega))
 grind [Nat.testBit_lt_two_pow]
theorem LN (m:Nat):m<16777216↔ ∀j,m.testBit j=true->j<24:=by
 constructor
 ·intro h j hj;exact oZ h hj
 ·intro h
  apply Nat.lt_pow_two_of_testBit (n:=24)
  grind
def eU (n b x:Nat):Nat:=if x<n then x else x+b
theorem Dl (m n j:Nat):(gO m n).testBit j=(m.testBit j&&decide (j<n/\j<24)):=by
 grind [gO,g8]
theorem Js (m n j:Nat):(dl m n).testBit j=(m.testBit j&&decide (n<=j/\j<24)):=by
 grind [dl,mm,g8]
theorem Fg (m n b:Nat):LV m n b=if (∃x∈bW m,n<=x/\24<=x+b) then (0,10) else (RQ ((bW m).map (eU n b)),0):=by
 have A:((bW m).map (eU n b)).Nodup:=by
  grind [eU,oY]
 have E: ∀j,(RQ ((bW m).map (eU n b))).testBit j=((gO m n).testBit j||(decide (b<=j)&&(dl m n).testBit (j-b))):=by
  intro j
  rw [oG _ A,Dl,Js,Bool.eq_iff_iff]
  simp only [decide_eq_true_eq,wD,sP,Bool.or_eq_true,pX]
  grind [eU]
 have q: ∀j,(dl m n).testBit j=true↔(j∈bW m/\n<=j):=by
  grind [Js,sP]
 unfold LV
 by_cases B:dl m n=0
 ·rw [if_pos B,if_neg]
  ·congr 1
   apply Nat.eq_of_testBit_eq
   grind
  grind
 ·rw [if_neg B]
  have hex: ∃j,(dl m n).testBit j=true:=by
   apply Classical.byContradiction
   intro I
   apply B
   apply Nat.eq_of_testBit_eq
   grind
  have hmul: ∀j,(dl m n*2^b).testBit j=(decide (b<=j)&&(dl m n).testBit (j-b)):=by
   grind
  by_cases z:24<=b
  ·rw [if_pos z]
   obtain ⟨j,hj⟩:=hex
   have:=(q j).1 hj
   rw [if_pos ⟨j,this.1,this.2,by omega⟩]
  ·rw [if_neg z]
   have J:=LN (dl m n*2^b)
   by_cases F:dl m n*2^b>16777215
   ·rw [if_pos F,if_pos]
    grind
   ·rw [if_neg F,if_neg]
    ·congr 1
     apply Nat.eq_of_testBit_eq
     grind
    ·rintro ⟨x,h1,h2,L⟩
     have M:(dl m n*2^b).testBit (x+b)=true:=by
      simp_all
     grind
def j7 (m:Nat) (i:Int):Nat:=if 0<=i/\i<24 then gO m i.toNat|||((m&&&xA)/2^(i.toNat+1)*2^i.toNat) else m&&&xA
theorem akj (hk:Fu k) {m:Nat} (x:m<4294967296) (i:Int) (I:Int->OS S):pk k (m:Int) i I=I ((j7 m i:Nat):Int):=by
 simp only [pk,BM hk,ag hk]
 have hand:bj .and .u32 (m:Int) 16777215=((m&&&xA:Nat):Int):=lj x (by decide:(16777215:Nat)<4294967296)
 have z:m&&&xA<16777216:=Nat.lt_of_le_of_lt Nat.and_le_right (by decide)
 rw [hand]
 unfold j7
 by_cases h:0<=i/\i<24
 ·obtain ⟨n,rfl⟩: ∃n:Nat,i=n:=⟨i.toNat,by omega⟩
  have hn:n<24:=by omega
  rw [decide_eq_true h,if_pos h,uX,n3,R5 hk n (by omega)]
  have A:(n:Int)+1=((n+1:Nat):Int):=by simp
  rw [alX (by omega) (by omega),A,iR _ (by omega),iR _ (by omega),fN _ (by omega),fN _ (by omega)]
  rw [EJ,EJ,Nat.min_eq_left (show n+1<=32 by omega),Nat.min_eq_left (show n<=32 by omega),Es,Dt]
  have hb:2^min n 24-1<4294967296:=by
   have:2^min n 24<=2^24:=Nat.pow_le_pow_right (by decide) (by omega)
   omega
  have E:(m&&&xA)/2^(n+1)*2^n<=m&&&xA:=by
   have h1:(m&&&xA)/2^(n+1)*2^(n+1)<=m&&&xA:=Nat.div_mul_le_self _ _
   have h2:2^n<=2^(n+1):=Nat.pow_le_pow_right (by decide) (by omega)
   exact bu (Nat.mul_le_mul_left _ h2) h1
  have B:((((m&&&xA)/2^(n+1):Nat):Int))*((2^n:Nat):Int)=(((m&&&xA)/2^(n+1)*2^n:Nat):Int):=by simp
  rw [B,ld _ (by omega),lj (by omega) hb]
  have q:gO m n<4294967296:=by grind [gO,Nat.and_le_left]
  show I (bj .or .u32 ((gO m n:Nat):Int) _)=_
  rw [wK q (by omega)]
 ·rw [decide_eq_false h,if_neg h];rfl
def aG (n:Int):Prop:= -9223372036854775808<=n/\n<9223372036854775808
def oC (s:Int):Bool:=decide (s<16777216)
def bP (s i:Int):Bool:=decide (0<=i/\i<24)&&s.toNat.testBit i.toNat
def e_ (s i:Int):Int:=if 0<=i/\i<24 then (((s.toNat&&&xA)|||2^i.toNat:Nat):Int) else ((s.toNat&&&xA:Nat):Int)
def IA (s i:Int):Int:=if 0<=i/\i<24 then ((dL (s.toNat&&&xA) (2^i.toNat):Nat):Int) else ((s.toNat&&&xA:Nat):Int)
def Iz (s:Int):List Int:=ints (bW s.toNat)
def Db (s i b:Int):Int×Int:=if i<0\/b<0 then (0,2) else (((LV s.toNat i.toNat b.toNat).1:Int),((LV s.toNat i.toNat b.toNat).2:Int))
def pI (s i:Int):Int:=((j7 s.toNat i:Nat):Int)
theorem QE (m:Nat):oC (m:Int)=decide (m<16777216):=by
 grind [oC]
theorem Q9 (hk:Fu k) {s:Int} (h:BD s) (I:Bool->OS S):pm k s I=I (oC s):=by
 obtain ⟨m,q,rfl⟩:=h.nat
 rw [akm hk q,QE]
theorem rF (hk:Fu k) {s:Int} (h:BD s) (i:Int) (I:Bool->OS S):Mk k s i I=I (bP s i):=by
 obtain ⟨m,q,rfl⟩:=h.nat
 rw [akk hk q];rfl
theorem vV (hk:Fu k) {s:Int} (h:BD s) (i:Int) (I:Int->OS S):i_ k s i I=I (e_ s i):=by
 obtain ⟨m,q,rfl⟩:=h.nat
 rw [akn hk q];rfl
theorem vW (hk:Fu k) {s:Int} (h:BD s) (i:Int) (I:Int->OS S):jX k s i I=I (IA s i):=by
 obtain ⟨m,q,rfl⟩:=h.nat
 rw [ako hk q];rfl
theorem Ny {s:Int} (h:BD s):ra s=Iz s:=by
 obtain ⟨m,q,rfl⟩:=h.nat
 have: ∀i:Nat,(BitVec.ofInt 32 (m:Int)).getLsbD i=m.testBit i:=by
  grind
 simp_all [ra,Iz,ints,bW]
theorem Q6 (hk:Fu k) {s i b:Int} (h:BD s) (q:aG i) (hb:aG b) (I:Int×Int->OS S):lx k s i b I=I (Db s i b):=by
 obtain ⟨m,x,rfl⟩:=h.nat
 by_cases h1:i<0
 ·grind [lx,aY,Db]
 by_cases h2:b<0
 ·grind [lx,aY,Db]
 obtain ⟨n,rfl⟩: ∃n:Nat,i=n:=⟨i.toNat,by omega⟩
 obtain ⟨c,rfl⟩: ∃n:Nat,b=n:=⟨b.toNat,by omega⟩
 have:=q.2;have:=hb.2
 grind [akl,Db]
theorem Q4 (hk:Fu k) {s:Int} (h:BD s) (i:Int) (I:Int->OS S):pk k s i I=I (pI s i):=by
 obtain ⟨m,q,rfl⟩:=h.nat
 rw [akj hk q];rfl
theorem Dy (hk:Fu k) (I:Int->OS S):lw k 0 I=I 0:=by
 simp only [lw,ag hk];rfl
theorem Dz (hk:Fu k) (I:Int->OS S): ∀n:Nat,n<24->lw k ((2^n:Nat):Int) I=I 1:=by
 simp only [lw,ag hk]
 intro n hn
 match n,hn with
 |0,_|1,_|2,_|3,_|4,_|5,_|6,_|7,_|8,_|9,_|10,_|11,_|12,_|13,_|14,_|15,_|16,_|17,_|18,_|19,_|20,_|21,_|22,_|23,_=>rfl
 |n+24,h=>omega
theorem B7 (i:Int):e_ 0 i=if 0<=i/\i<24 then ((2^i.toNat:Nat):Int) else 0:=by
 grind [e_]
theorem ai7 (hk:Fu k) (i:Int) (I:Bool->OS S):yE k i I=I (decide (0<=i/\i<24)):=by
 simp only [yE,ag hk,vV hk (s:=0) ⟨by omega,by omega⟩,B7]
 grind [Dz,Dy]
theorem ai8 (hk:Fu k) (i:Int) (I:Bool->OS S):yK k i I=I (decide (0<=i/\i<24)):=by
 simp only [yK,ag hk,vV hk (s:=0) ⟨by omega,by omega⟩,B7]
 grind [Dz,Dy]
theorem BD.of {n:Nat} (h:n<4294967296):BD (n:Int):=⟨by omega,by omega⟩
theorem ao2 {s i:Int}:0<=e_ s i/\e_ s i<16777216:=by
 have h1:s.toNat&&&xA<16777216:=Nat.lt_of_le_of_lt Nat.and_le_right (by decide)
 unfold e_
 split
 ·next h=>
  have hp:2^i.toNat<2^24:=Nat.pow_lt_pow_right (by decide) (by omega)
  have:=Nat.or_lt_two_pow (n:=24) h1 hp
  omega
 ·omega
theorem Jd {s i:Int}:0<=IA s i/\IA s i<16777216:=by
 have h1:s.toNat&&&xA<16777216:=Nat.lt_of_le_of_lt Nat.and_le_right (by decide)
 unfold IA
 split
 ·have:=vq (n:=24) (b:=2^i.toNat) h1
  omega
 ·omega
theorem aam (m:Nat) (i:Int):j7 m i<16777216:=by
 have h1:m&&&xA<16777216:=Nat.lt_of_le_of_lt Nat.and_le_right (by decide)
 unfold j7
 split
 ·rw [LN]
  grind [Dl,g8]
 omega
deriving instance DecidableEq for Cl
theorem Cl.ext' {a b:Cl} (h1:a.pos=b.pos) (h2:a.neg=b.neg):a=b:=by cases a<;>simp_all
theorem lm (a b:Cl):((a.pos==b.pos)&&((a.neg==b.neg)&&true))=decide (a=b):=by
 grind [Cl.ext']
def aX (c:Cl):Prop:=BD c.pos/\BD c.neg
def aq (f:LC):Prop:= ∀c∈f,aX c
def fE (c:Cl):Bool:=oC c.pos&&oC c.neg
def RC (c:Cl):Prop:=(0<=c.pos/\c.pos<16777216)/\(0<=c.neg/\c.neg<16777216)
theorem RC.ok {c:Cl} (h:RC c):aX c:=⟨⟨h.1.1,by have:=h.1.2;omega⟩,⟨h.2.1,by have:=h.2.2;omega⟩⟩
theorem Bp {c:Cl} (h:aX c):fE c=true↔RC c:=by
 unfold fE oC RC
 simp only [pX,decide_eq_true_eq]
 have h1:=h.1.1;have h2:=h.2.1
 omega
def ep (a b:Int):Int:=((a.toNat|||b.toNat:Nat):Int)
theorem pa {a b:Int} (ha:BD a) (hb:BD b):bj .or .u32 a b=ep a b:=by
 obtain ⟨m,q,rfl⟩:=ha.nat;obtain ⟨n,hn,rfl⟩:=hb.nat
 rw [wK q hn];rfl
def d9 (a b:Cl):Cl:=⟨ep a.pos b.pos,ep a.neg b.neg⟩
def dR (a b:Cl):Bool:=decide (d9 a b=a)
def bS (c:Cl):Bool:= !decide (c.pos.toNat&&&c.neg.toNat=0)
theorem FX {a b:Int} (ha:BD a) (hb:BD b):BD (ep a b):=by
 obtain ⟨m,q,rfl⟩:=ha.nat;obtain ⟨n,hn,rfl⟩:=hb.nat
 exact BD.of (Nat.or_lt_two_pow (n:=32) q hn)
theorem Aw {a b:Cl} (ha:aX a) (hb:aX b):aX (d9 a b):=⟨FX ha.1 hb.1,FX ha.2 hb.2⟩
theorem Rg (hk:Fu k) {c:Cl} (h:aX c) (I:Bool->OS S):tC k c I=I (fE c):=by
 simp only [tC,ag hk,Q9 hk h.1,Q9 hk h.2,fE,cH]
 grind
theorem G_ (hk:Fu k) {a b:Cl} (ha:aX a) (hb:aX b) (I:Cl->OS S):pb k a b I=I (d9 a b):=by
 simp only [pb,pa ha.1 hb.1,pa ha.2 hb.2];rfl
theorem ai3 (hk:Fu k) {a b:Cl} (ha:aX a) (hb:aX b) (I:Bool->OS S):yA k a b I=I (dR a b):=by
 simp only [yA,ag hk,G_ hk ha hb,lm];rfl
theorem Rf (hk:Fu k) {c:Cl} (h:aX c) (I:Bool->OS S):tB k c I=I (bS c):=by
 obtain ⟨p,n⟩:=c
 obtain ⟨m,q,rfl⟩:=h.1.nat;obtain ⟨n,hn,rfl⟩:=h.2.nat
 simp only [tB,lj q hn,bS,EJ]
 congr 2
 grind
open Classical in
theorem aln (s:Int) (x:Nat) (q:x<24) (j:Nat):(e_ s (x:Int)).toNat.testBit j=((s.toNat.testBit j&&decide (j<24))||decide (j=x)):=by
 unfold e_
 rw [if_pos (by omega),EJ,EJ,Nat.testBit_or,Nat.testBit_and,g8,Nat.testBit_two_pow,Bool.eq_iff_iff]
 grind
def dw (c:Cl) (i b:Int):Cl×Int:=
 if fE c then
  if (Db c.pos i b).2=0 then if (Db c.neg i b).2=0 then (⟨(Db c.pos i b).1,(Db c.neg i b).1⟩,0) else (⟨0,0⟩,(Db c.neg i b).2)
  else (⟨0,0⟩,(Db c.pos i b).2)
 else (⟨0,0⟩,2)
theorem ai4 (hk:Fu k) {c:Cl} {i b:Int} (h:aX c) (q:aG i) (hb:aG b) (I:Cl×Int->OS S):yD k c i b I=I (dw c i b):=by
 simp only [yD,ag hk,Rg hk h,Q6 hk h.1 q hb,Q6 hk h.2 q hb,cH,dw,Bool.not_eq_true',beq_eq_false_iff_ne]
 grind
def gP (a b:Cl):Prop:=a.pos<b.pos\/(a.pos=b.pos/\a.neg<b.neg)
def qZ (a b:Cl):Bool:=decide (a.pos<b.pos)||(a.pos==b.pos&&decide (a.neg<b.neg))
theorem agh {a b:Cl}:qZ a b=true↔gP a b:=by unfold qZ gP;simp
theorem LP {a b c:Cl} (h:gP a b) (h':gP b c):gP a c:=by grind [gP]
theorem LO {a:Cl} (h:gP a a):False:=by grind [gP]
theorem agC (a b:Cl):gP a b\/a=b\/gP b a:=by
 grind [Cl.ext',gP]
abbrev lg (l:LC):Prop:=l.Pairwise gP
theorem BL: ∀ {a b:LC},lg a->lg b->(∀c,c∈a↔c∈b)->a=b:=by
 intro a
 induction a with
 |nil=>
  intro b _ _ h
  cases b with
  |nil=>rfl
  |cons y b=>exact absurd ((h y).2 (by simp)) (by simp)
 |cons x a B=>
  intro b ha hb h
  cases b with
  |nil=>grind
  |cons y b=>
   have q:=List.pairwise_cons.1 ha;have z:=List.pairwise_cons.1 hb
   have A:x=y:=by
    rcases xB.1 ((h x).1 (by simp)) with h1|h1
    ·exact h1
    ·rcases xB.1 ((h y).2 (by simp)) with h2|h2<;>grind [LP,LO]
   grind [LO]
def fq (x:Cl):LC->LC
 |[]=>[x]
 |y::r=>if qZ y x then y::fq x r else if y=x then y::r else x::y::r
theorem NE {x c:Cl}: ∀ {l:LC},c∈fq x l↔c=x\/c∈l:=by
 intro l
 induction l<;>grind [fq]
theorem adp {x:Cl}: ∀ {l:LC},lg l->lg (fq x l):=by
 intro l
 induction l<;>grind [fq,List.pairwise_cons,NE,agh,agC,LP]
theorem K_ {x:Cl}: ∀ {l:LC},(fq x l).length<=l.length+1:=by
 intro l
 induction l<;>grind [fq]
def ce (l:LC) (c:Cl):Bool:=l.all fun d=>decide (d=c)|| !dR c d
def Sz (o l:LC):LC:=l.foldl (fun o c=>fq c o) o
def Ij (l:LC):LC:=Sz [] (l.filter (ce l))
theorem agJ {c:Cl}: ∀ {l o:LC},c∈Sz o l↔c∈l\/c∈o:=by
 intro l
 induction l with
 |nil=>grind [Sz]
 |cons x l q=>
  intro o
  show c∈Sz (fq x o) l↔_
  grind [NE]
theorem ado: ∀ {l o:LC},lg o->lg (Sz o l):=by
 intro l
 induction l with
 |nil=>intro o h;exact h
 |cons x l q=>intro o h;exact q (adp h)
theorem adn: ∀ {l o:LC},(Sz o l).length<=o.length+l.length:=by
 intro l
 induction l<;>grind [Sz,K_]
theorem An (l:LC):lg (Ij l):=ado List.Pairwise.nil
theorem ta {l:LC} {c:Cl}:c∈Ij l↔c∈l/\ce l c=true:=by
 grind [Ij,agJ]
theorem agM (l:LC):(Ij l).length<=l.length:=by
 grind [adn,Ij]
theorem NK {l l':LC} (h: ∀c,c∈l↔c∈l') (c:Cl):ce l c=ce l' c:=by
 grind [ce]
def bp (l:LC):LC×Int:=if l.all fE then if (Ij l).length>64 then ([],3) else (Ij l,0) else ([],2)
theorem yq {S:Type} {p:Prop} [Decidable p] (h:p) (f:Unit->OS S):nW (bR p) f=f ():=fN p h f
theorem aiS (hk:Fu k) {d c:Cl} (hd:aX d) (hc:aX c) (I:Bool->OS S):yC k d c I=I (!(decide (d=c)|| !dR c d)):=by
 grind [yC,lm,cH,ag,ai3,dR]
theorem aeZ (hk:Fu k) (I:Int->OS S) {c:Cl} (hc:aX c) {l:LC} (hl:aq l) (hlen:l.length<2147483648):
  ∀ (r p:LC) (m:Nat),l=p++r->r.length<m-> ∃v:Int,decide (v>=0)= !ce r c/\qO k I c l m (p.length:Int)=I v:=by
 intro r
 induction r with
 |nil=>
  intro p m h z
  obtain ⟨m,rfl,q⟩:=pw z
  exact ⟨-1,rfl,by grind [qO,yc,n3]⟩
 |cons x r A=>
  intro p m h z
  obtain ⟨m,rfl,q⟩:=pw z
  obtain ⟨E,F,J,B⟩:=qF h (by omega)
  have L:aX x:=hl x (by grind)
  obtain ⟨v,hv,M⟩:=A (p++[x]) m B q
  have O:ce (x::r) c=((decide (x=c)|| !dR c x)&&ce r c):=by rfl
  grind [qO,yc,ae,ag,aiS,decide,dR,n3]
theorem ajq (hk:Fu k) {c:Cl} (hc:aX c) {l:LC} (hl:aq l) (hlen:l.length<2147483648) (I:Bool->OS S):yB k c l I=I (!ce l c):=by
 obtain ⟨v,hv,q⟩:=aeZ hk (fun r1:Int=>I (decide (r1>=0))) hc hl hlen l [] k rfl (by omega)
 grind [yB,DT,DV,IM,ag]
theorem ae2 (hk:Fu k) (I:LC×Int->OS S) {l:LC} (hl:aq l) (hlen:l.length<2147483648):
  ∀ (r p:LC) (m:Nat) (q:LC),l=p++r->r.length<m->q.length<=p.length->
  nz k I l m (p.length:Int) q=I (if (q++r.filter (ce l)).length>64 then ([],3) else (sortCl (q++r.filter (ce l)),0)):=by
 intro r
 induction r with
 |nil=>
  grind [pw,nz,wM,aY]
 |cons x r A=>
  intro p m q h B T
  obtain ⟨m,rfl,z⟩:=pw B
  obtain ⟨E,F,J,L⟩:=qF h (by omega)
  have M:aX x:=hl x (by grind)
  have O:p.length<l.length:=by grind
  simp only [nz,wM,E,ae,F,p9,ag hk,ajq hk M hl hlen,Bool.not_not]
  rw [J]
  cases hn:ce l x with
  |true=>
   rw [ae,J5 (by grind),List.filter_cons_of_pos hn,A (p++[x]) m (q++[x]) L z (by grind)]
   simp
  |false=>
   rw [n3,List.filter_cons_of_neg (by grind)]
   grind
theorem zT (a b:Cl):eS VV ET.C a b=decide (a=b):=by
 have e:eS VV ET.C a b=((a.pos==b.pos)&&((a.neg==b.neg)&&true)):=by
  rfl
 rw [e,lm]
theorem agK (l:List (Cl×Bool)) (x y:Cl):dW VV ET.C (KU VV ET.C l x true) y=if x=y then some true else dW VV ET.C l y:=by
 induction l with
 |nil=>
  show (bif eS VV ET.C x y then some true else .none)=_
  simp_all [zT,dW]
 |cons a r q=>
  obtain ⟨z,b⟩:=a
  show dW VV ET.C (bif eS VV ET.C z x then (z,true)::r else (z,b)::KU VV ET.C r x true) y=_
  rw [zT]
  by_cases h:z=x
  ·subst h
   rw [decide_eq_true rfl,cond_true]
   show (bif eS VV ET.C z y then some true else dW VV ET.C r y)=if z=y then some true else (bif eS VV ET.C z y then some b else dW VV ET.C r y)
   grind [zT]
  ·rw [decide_eq_false h,cond_false]
   show (bif eS VV ET.C z y then some b else dW VV ET.C (KU VV ET.C r x true) y)=if x=y then some true else (bif eS VV ET.C z y then some b else dW VV ET.C r y)
   grind [zT]
theorem akd {l o:LC} (hn:o.Nodup) (h: ∀c,c∈o↔c∈l):sortCl (o.filter (ce o))=Ij l/\(o.filter (ce o)).length=(Ij l).length:=by
 have hp:(sortCl (o.filter (ce o))).Perm (o.filter (ce o)):=List.mergeSort_perm _ _
 have hs:(sortCl (o.filter (ce o))).Pairwise (fun a b=>lq a b=true):=
  List.pairwise_mergeSort (le:=lq) (fun a b c h1 h2=>by
   grind [lq]) (fun a b=>by
   grind [lq]) _
 have x:(sortCl (o.filter (ce o))).Nodup:=hp.nodup_iff.2 (hn.filter _)
 have q:lg (sortCl (o.filter (ce o))):=by
  refine (hs.and x).imp fun {a b} h=> ?_
  have h1:=h.1
  unfold lq at h1
  simp only [Bool.or_eq_true,pX,decide_eq_true_eq,beq_iff_eq] at h1
  rcases h1 with h1|h1
  ·exact .inl h1
  ·refine .inr ⟨h1.1, ?_⟩
   grind [Cl.ext']
 have he:sortCl (o.filter (ce o))=Ij l:=BL q (An l) fun c=>by
  grind [ta,NK]
 exact ⟨he,by rw [<-he,hp.length_eq]⟩
theorem af3 (hk:Fu k) (I:LC×Int->OS S) {l:LC} (hl:aq l) (hlen:l.length<2147483648):
  ∀ (r p:LC) (m:Nat) (q:List (Cl×Bool)) (o:LC),l=p++r->r.length<m->o.length<=p.length->o.Nodup->(∀c:Cl,(dW VV ET.C q c).getD false=decide (c∈o))->(∀c,c∈o↔c∈p)->
  pZ k I l m q o (p.length:Int)=I (if r.all fE then if (Ij l).length>64 then ([],3) else (Ij l,0) else ([],2)):=by
 intro r
 induction r with
 |nil=>
  intro p m q o h E ho A L z
  obtain ⟨m,rfl,B⟩:=pw E
  have hp:l=p:=by grind
  subst hp
  have F:aq o:=fun c hc=>hl c ((z c).1 hc)
  have M:4294967296<=k:=hk
  simp only [pZ,m',xu h,n3,List.all_nil,if_true]
  have:=ae2 hk I F (by omega) o [] k [] rfl (by omega) (by simp)
  grind [akd]
 |cons x r O=>
  intro p m q o h E ho A L z
  obtain ⟨m,rfl,B⟩:=pw E
  obtain ⟨T,W,Y,e4⟩:=qF h (by omega)
  have hx:aX x:=hl x (by grind)
  have ad:p.length<l.length:=by grind
  simp only [pZ,m',T,ae,W,p9,ag hk,Rg hk hx]
  rw [L,Y]
  by_cases hr:fE x=true
  ·have:(x::r).all fE=r.all fE:=by grind
   rw [hr,uX,n3,this]
   by_cases J:x∈o
   ·grind [n3]
   ·rw [decide_eq_false J,sQ,ae,J5 (by grind)]
    refine O (p++[x]) m _ (o++[x]) e4 B (by grind) (List.nodup_append.2 ⟨A,by simp,fun a ha b hb=>by grind⟩) (fun c=> ?_) fun c=> ?_
    all_goals grind [agK]
  grind [ae]
theorem kX (hk:Fu k) {l:LC} (hl:aq l) (hlen:l.length<2147483648) (I:LC×Int->OS S):gy k l I=I (bp l):=by
 simp only [gy,Hw]
 exact af3 hk I hl hlen l [] k [] [] rfl (by omega) (by simp) List.nodup_nil (fun c=>by rfl) (fun c=>Iff.rfl)
theorem aeg (hk:Fu k) (I:Bool->OS S) {a b:LC} (hlen:a.length<4294967296):
  ∀ (r s p q:LC) (m:Nat),a=p++r->b=q++s->p.length=q.length->r.length=s.length->r.length<m->qN k I a b m (p.length:Int)=I (decide (r=s)):=by
 intro r
 induction r with
 |nil=>
  grind [pw,qN,yb,n3]
 |cons x r E=>
  intro s p q m h h' F z J
  obtain ⟨m,rfl,A⟩:=pw J
  cases s with
  |nil=>cases z
  |cons y s=>
   obtain ⟨L,M,O,T⟩:=qF h (by omega)
   have B:af b (p.length:Int)=some y:=by grind [uB]
   simp only [qN,yb,L,ae,M,B,p9,lm,O]
   rw [E s (p++[x]) (q++[y]) m T (by grind) (by simp_all) (by grind) A]
   by_cases W:x=y<;>simp_all [n3,ae]
theorem me (hk:Fu k) {a b:LC} (hlen:a.length<4294967296) (I:Bool->OS S):zz k a b I=I (decide (a=b)):=by
 simp only [zz,IL]
 by_cases h:a.length=b.length
 ·have e:((a.length:Int)==(b.length:Int))=true:=by simp [h]
  rw [e,uX,n3]
  exact aeg hk I hlen a b [] [] k rfl rfl rfl h (by omega)
 ·have e:((a.length:Int)==(b.length:Int))=false:=by grind
  rw [e,sQ,ae,decide_eq_false]
  grind
theorem LF (l:LC):(bp l).1.length<=64:=by
 grind [bp]
def xV (f:LC):Bool:=decide (bp f=(f,0))
theorem rH (hk:Fu k) {f:LC} (hf:aq f) (hlen:f.length<2147483648) (I:Bool->OS S):hY k f I=I (xV f):=by
 have:=LF f
 simp only [hY,ag hk,kX hk hf hlen,me hk (show (bp f).1.length<4294967296 by omega),cH,xV,beq_iff_eq]
 by_cases h:(bp f).2=0
 all_goals simp_all [Prod.ext_iff]
def RF (f:LC):Prop:=bp f=(f,0)/\aq f
theorem L8 {f:LC} (h:aq f):xV f=true↔RF f:=by grind [xV,RF]
theorem RF.right {f:LC} (h:RF f):xV f=true:=by unfold xV;simp [h.1]
theorem As {l o:LC} (h:bp l=(o,0)):o=Ij l/\l.all fE=true/\o.length<=64:=by
 grind [bp]
theorem RF.len {f:LC} (h:RF f):f.length<=64:=(As h.1).2.2
theorem RF.rc {f:LC} (h:RF f) {c:Cl} (hc:c∈f):RC c:=(Bp (h.2 c hc)).1 (xm.1 (As h.1).2.1 c hc)
theorem agN (l:LC):Ij (Ij l)=Ij l:=BL (An _) (An _) fun c=>by
 grind [ta,ce]
theorem qX {l:LC} (hl:aq l) (h:(bp l).2=0):RF (bp l).1:=by
 have h':bp l=((bp l).1,0):=Prod.ext rfl h
 obtain ⟨h1,h2,x⟩:=As h'
 have q:aq (bp l).1:=fun c hc=>hl c ((ta.1 (h1▸hc)).1)
 refine ⟨?_,q⟩
 grind [bp,ta,agN]
theorem agf {l:LC} (h:(bp l).2≠0):(bp l).1=[]:=by
 grind [bp]
theorem rA:RF []:=⟨rfl,fun c hc=>by cases hc⟩
theorem gS {c:Cl} (h:RC c):RF [c]:=by
 have q:aq [c]:=fun d hd=>by simp at hd;subst hd;exact h.ok
 refine ⟨?_,q⟩
 have x:Ij [c]=[c]:=BL (An _) (by simp) fun d=>by
  grind [ta,ce]
 unfold bp
 rw [x,if_pos (by simp [(Bp h.ok).2 h]),if_neg (by simp)]
theorem oA:RC ⟨0,0⟩:=⟨⟨by decide,by decide⟩,by decide,by decide⟩
theorem M1 {f g:LC} (hf:aq f) (q:aq g):aq (f++g):=fun c hc=>by
 rcases xO.1 hc with h|h
 ·exact hf c h
 ·exact q c h
theorem afJ (hk:Fu k) (I:Int->OS S) {l:List (LC)} (hl: ∀f∈l,aq f/\f.length<2147483648) (hlen:l.length<4294967296):
  ∀ (r p:List (LC)) (m:Nat),l=p++r->r.length<m->qi k I l m (p.length:Int)=I (if r.all xV then 0 else 2):=by
 intro r
 induction r with
 |nil=>
  grind [pw,qi,w9,n3]
 |cons x r A=>
  intro p m h q
  obtain ⟨m,rfl,z⟩:=pw q
  obtain ⟨B,E,F,J⟩:=qF h (by omega)
  have L:=hl x (by grind)
  grind [qi,w9,ae,ag,rH,n3]
theorem Hc (hk:Fu k) {l:List (LC)} (hl: ∀f∈l,aq f/\f.length<2147483648) (hlen:l.length<4294967296) (I:Int->OS S):pi k l I=I (if l.all xV then 0 else 2):=by
 simp only [pi,HT]
 exact afJ hk I hl hlen l [] k rfl (by omega)
def IC (f g:LC):LC×Int:=bp (f++g)
def meets (f g:LC):LC:=f.flatMap fun a=>g.map (d9 a)
def IB (f g:LC):LC×Int:=bp (meets f g)
theorem ND {f g:LC} (hf:aq f) (q:aq g):aq (meets f g):=fun c hc=>by
 obtain ⟨a,ha,hc⟩:=List.mem_flatMap.1 hc
 obtain ⟨b,hb,rfl⟩:=wD.1 hc
 exact Aw (hf a ha) (q b hb)
theorem kS {f g:LC} (hf:aq f) (q:aq g) (h:(IB f g).2=0):RF (IB f g).1:=qX (ND hf q) h
theorem Lc {f g:LC} (hf:aq f) (q:aq g) (h:(IC f g).2=0):RF (IC f g).1:=qX (M1 hf q) h
theorem Bz (hk:Fu k) {f g:LC} (hf:aq f) (q:aq g) (h1:f.length<1073741824) (h2:g.length<1073741824) (I:LC×Int->OS S):na k f g I=I (IC f g):=by
 simp only [na,ag hk,zg]
 rw [J5 (by grind),J5 (by omega),kX hk (M1 hf q) (by grind)]
 rfl
theorem afa (hk:Fu k) (I:LC×Int->OS S) (q:Int->LC->OS S) {x:Cl} (B:aX x) {g f:LC} {v:Int} (E:aq g) (hlen:g.length<65536):
  ∀ (r p:LC) (m:Nat) (o:LC),g=p++r->r.length<m->o.length+r.length<1099511627776->nA k I q x g f v m (p.length:Int) o=q (oa .i64 (v+1)) (o++r.map (d9 x)):=by
 intro r
 induction r with
 |nil=>
  intro p m o h z ho
  obtain ⟨m,rfl,A⟩:=pw z
  grind [nA,w7,n3]
 |cons y r O=>
  intro p m o h z ho
  obtain ⟨m,rfl,A⟩:=pw z
  obtain ⟨F,J,L,T⟩:=qF h (by omega)
  have M:aX y:=E y (by grind)
  simp only [ue] at ho
  simp only [nA,w7,F,ae,J,p9,ag hk,G_ hk B M,L]
  grind [J5]
theorem ae_ (hk:Fu k) (I:LC×Int->OS S) {g f:LC} (hf:aq f) (A:aq g) (E:f.length<32768) (F:g.length<32768):
  ∀ (r p:LC) (m:Nat) (o:LC),f=p++r->r.length<m->aq o->o.length+r.length*g.length<1073741825->lZ k I g f m (p.length:Int) o=I (bp (o++meets r g)):=by
 intro r
 induction r with
 |nil=>
  grind [pw,lZ,hW,n3,ag,kX,meets]
 |cons x r J=>
  intro p m o h L q ho
  obtain ⟨m,rfl,z⟩:=pw L
  obtain ⟨M,O,T,W⟩:=qF h (by omega)
  have B:aX x:=hf x (by grind)
  have hmul:(x::r).length*g.length=r.length*g.length+g.length:=by grind
  rw [hmul] at ho
  have Y:4294967296<=k:=hk
  simp only [lZ,hW,M,ae,O,p9]
  have:=afa hk I (lZ k I g f m) (f:=f) (v:=(p.length:Int)) B A (by omega) g [] k o rfl (by omega) (by omega)
  simp only [List.length_nil] at this
  rw [show (0:Int)=((0:Nat):Int) from rfl,this,T,J (p++[x]) m _ W z (M1 q fun c hc=>by
   obtain ⟨b,hb,rfl⟩:=wD.1 hc
   exact Aw B (A b hb)) (by grind)]
  simp [meets]
theorem vY (hk:Fu k) {f g:LC} (hf:aq f) (q:aq g) (h1:f.length<32768) (h2:g.length<32768) (I:LC×Int->OS S):jW k f g I=I (IB f g):=by
 simp only [jW,HR]
 have hb:f.length*g.length<1073741824:=Nat.lt_of_le_of_lt (Nat.mul_le_mul (Nat.le_of_lt_succ h1) (Nat.le_of_lt_succ h2)) (by decide)
 have:=ae_ hk I hf q h1 h2 f [] k [] rfl (by omega) (fun c hc=>by cases hc) (by grind)
 grind [IB]
theorem RF.lt {f:LC} (h:RF f):f.length<2147483648:=by have:=h.len;omega
theorem u0:BD 0:=⟨by decide,by decide⟩
def nl (i:Int):Cl:=⟨0,e_ 0 i⟩
def pl (i:Int):Cl:=⟨e_ 0 i,0⟩
theorem FR (i:Int):RC (nl i):=⟨⟨by show (0:Int)<=0;decide,by show (0:Int)<16777216;decide⟩,ao2⟩
theorem F1 (i:Int):RC (pl i):=⟨ao2,⟨by show (0:Int)<=0;decide,by show (0:Int)<16777216;decide⟩⟩
def jI (c:Cl):LC:=(Iz c.pos).map nl++(Iz c.neg).map pl
def oj (c:Cl):LC×Int:=bp (jI c)
theorem Fi (s:Int):(Iz s).length<=24:=by grind [Iz,amb,gu]
theorem NV {c d:Cl} (h:d∈jI c):RC d:=by
 rcases xO.1 h with h|h<;>grind [FR,F1]
theorem ahw (c:Cl):(jI c).length<=48:=by
 grind [Fi,jI]
theorem LH {l:LC} (h: ∀c∈l,RC c) (hl:l.length<=64):(bp l).2=0:=by
 have:=agM l
 unfold bp
 rw [if_pos (xm.2 fun c hc=>(Bp (h c hc).ok).2 (h c hc)),if_neg (by omega)]
theorem NW (c:Cl):(oj c).2=0:=LH (fun d hd=>NV hd) (by have:=ahw c;omega)
theorem AC (c:Cl):RF (oj c).1:=qX (fun d hd=>(NV hd).ok) (NW c)
theorem afe (hk:Fu k) (I:LC×Int->OS S) {l:List Int} (hlen:l.length<=64):
  ∀ (r p:List Int) (m:Nat) (o:LC),l=p++r->r.length<m->aq o->o.length+r.length<1073741824->Sy k I l m (p.length:Int) o=I (bp (o++r.map pl)):=by
 intro r
 induction r with
 |nil=>
  grind [pw,Sy,w8,n3,ag,kX]
 |cons x r A=>
  intro p m o h B q ho
  obtain ⟨m,rfl,z⟩:=pw B
  obtain ⟨E,F,J,L⟩:=qF h (by omega)
  simp only [ue] at ho
  simp only [Sy,w8,E,ae,F,p9,ag hk,vV hk u0,J]
  rw [J5 (by grind),A (p++[x]) m _ L z (M1 q fun c hc=>by simp at hc;subst hc;exact (F1 x).ok) (by grind)]
  simp [pl]
theorem afd (hk:Fu k) (I:LC×Int->OS S) {c:Cl} (hc:aX c) {l:List Int} (hlen:l.length<=64):
  ∀ (r p:List Int) (m:Nat) (o:LC),l=p++r->r.length<m->aq o->o.length+r.length<1000000->qh k I c l m (p.length:Int) o=I (bp (o++r.map nl++(Iz c.neg).map pl)):=by
 intro r
 induction r with
 |nil=>
  intro p m o h A q ho
  obtain ⟨m,rfl,z⟩:=pw A
  simp only [List.length_nil] at ho
  have hl:=Fi c.neg
  have B:4294967296<=k:=hk
  simp only [qh,r7,xu h,n3,vz,Ny hc.2,List.map_nil,xG]
  grind [afe]
 |cons x r E=>
  intro p m o h A q ho
  obtain ⟨m,rfl,z⟩:=pw A
  obtain ⟨F,J,L,M⟩:=qF h (by omega)
  simp only [ue] at ho
  simp only [qh,r7,F,ae,J,p9,ag hk,vV hk u0,L]
  rw [J5 (by grind),E (p++[x]) m _ M z (M1 q fun c hc=>by simp at hc;subst hc;exact (FR x).ok) (by grind)]
  simp [nl]
theorem ajs (hk:Fu k) {c:Cl} (hc:aX c) (I:LC×Int->OS S):yV k c I=I (oj c):=by
 have hl:=Fi c.pos
 simp only [yV,HS,vz,Ny hc.1]
 have:=afd hk I hc (l:=Iz c.pos) (by omega) (Iz c.pos) [] k [] rfl (by omega) (fun c hc=>by cases hc) (by grind)
 grind [oj,jI]
def xK (step:LC->Cl->LC×Int):LC->LC->LC×Int
 |h,[]=>(h,0)
 |h,c::r=>if (step h c).2=0 then xK step (step h c).1 r else ([],(step h c).2)
def mn (h:LC) (c:Cl):LC×Int:=IB h (oj c).1
def FI (f:LC):LC×Int:=xK mn [⟨0,0⟩] f
theorem KG {step:LC->Cl->LC×Int} (hs: ∀h c,RF h->(step h c).2=0->RF (step h c).1): ∀ {r h:LC},RF h->(xK step h r).2=0->RF (xK step h r).1:=by
 intro r
 induction r<;>grind [xK]
theorem FS (h:LC) (c:Cl) (q:RF h) (x:(mn h c).2=0):RF (mn h c).1:=kS q.2 (AC c).2 x
theorem ju {f:LC} (h:(FI f).2=0):RF (FI f).1:=KG FS (gS oA) h
theorem bG (n:Int):(n==0)=decide (n=0):=by rfl
theorem ajr (hk:Fu k) {h:LC} {c:Cl} (q:RF h) (hc:aX c) (I:LC×Int->OS S):yU k h c I=I (mn h c):=by
 have:=q.len;have:=(AC c).len
 simp only [yU,ag hk,ajs hk hc,NW,vY hk q.2 (AC c).2 (show h.length<32768 by omega) (show (oj c).1.length<32768 by omega)]
 rfl
theorem aeS (hk:Fu k) (I:LC×Int->OS S) {l:LC} (hl:aq l) (hlen:l.length<2147483648):
  ∀ (r p:LC) (m:Nat) (h:LC),l=p++r->r.length<m->RF h->qe k I l m h (p.length:Int)=I (xK mn h r):=by
 intro r
 induction r with
 |nil=>
  intro p m h e q A
  obtain ⟨m,rfl,z⟩:=pw q
  simp only [qe,b6,xu e,n3];rfl
 |cons x r L=>
  intro p m h e q A
  obtain ⟨m,rfl,z⟩:=pw q
  obtain ⟨B,E,F,M⟩:=qF e (by omega)
  have J:aX x:=hl x (by grind)
  simp only [qe,b6,B,ae,E,p9,ag hk,ajr hk A J,bG,F]
  grind [n3,FS,xK,ae]
theorem Rq (hk:Fu k) {f:LC} (hf:aq f) (hlen:f.length<2147483648) (I:LC×Int->OS S):ph k f I=I (FI f):=by
 simp only [ph,ag hk,Nu,DP,HP]
 exact aeS hk I hf hlen f [] k _ rfl (by omega) (gS oA)
theorem aja (hk:Fu k) {f:LC} (hf:aq f) (hlen:f.length<2147483648) (I:LC×Int->OS S):yQ k f I=I (if xV f then FI f else ([],2)):=by
 simp only [yQ,ag hk,Hc hk (l:=[f]) (by grind) (by simp),Rq hk hf hlen]
 have:[f].all xV=xV f:=by simp
 rw [this]
 by_cases h:xV f=true
 ·rw [if_pos h,if_pos h];rfl
 ·rw [if_neg h,if_neg h];rfl
def Fq (i:Int) (c:Cl):Cl:=⟨IA c.pos i,IA c.neg i⟩
theorem kg (i:Int) (c:Cl):RC (Fq i c):=⟨Jd,Jd⟩
def d_ (i:Int) (r:LC) (c:Cl):LC×Int:=if bP c.pos i then IB [Fq i c] r else ([Fq i c],0)
def MG (i:Int) (r:LC) (c:Cl) (g:LC):LC×Int:=if bP c.neg i then if (FI r).2=0 then IB g (FI r).1 else ([],(FI r).2) else (g,0)
def dY (i:Int) (r h:LC) (c:Cl):LC×Int:=
 if (d_ i r c).2=0 then if (MG i r c (d_ i r c).1).2=0 then IC h (MG i r c (d_ i r c).1).1 else ([],(MG i r c (d_ i r c).1).2) else ([],(d_ i r c).2)
def lL (i:Int):Bool:=decide (0<=i/\i<24)
def iH (f:LC) (i:Int) (r:LC):LC×Int:=if xV f&&xV r&&lL i then xK (dY i r) [] f else ([],2)
theorem ahI {i:Int} {r:LC} {c:Cl} (q:RF r) (h:(d_ i r c).2=0):RF (d_ i r c).1:=by
 unfold d_ at h ⊢
 split
 ·next x=>rw [if_pos x] at h;exact kS (gS (kg i c)).2 q.2 h
 simp_all [gS,kg]
theorem ahK {i:Int} {r g:LC} {c:Cl} (q:RF g) (h:(MG i r c g).2=0):RF (MG i r c g).1:=by
 unfold MG at h ⊢
 split
 ·next x=>
  rw [if_pos x] at h
  split
  ·next hn=>rw [if_pos hn] at h;exact kS q.2 (ju hn).2 h
  grind
 omega
theorem N5 {i:Int} {r:LC} (x:RF r) (h:LC) (c:Cl) (z:RF h) (q:(dY i r h c).2=0):RF (dY i r h c).1:=by
 unfold dY at q ⊢
 split
 ·next ha=>
  rw [if_pos ha] at q
  have hA:=ahI x ha
  split
  ·next hb=>rw [if_pos hb] at q;exact Lc z.2 (ahK hA hb).2 q
  grind
 grind
theorem aiU (hk:Fu k) {i:Int} {r h:LC} {c:Cl} (x:RF r) (A:RF h) (hc:aX c) (I:LC×Int->OS S):yS k h c i r I=I (dY i r h c):=by
 have L:=x.len;have M:=A.len
 have z:=gS (kg i c)
 simp only [yS,ag hk,vW hk hc.1,vW hk hc.2,rF hk hc.1,rF hk hc.2,vY hk z.2 x.2 (show [Fq i c].length<32768 by simp) (show r.length<32768 by omega),Rq hk x.2 x.lt,bG,cH,decide_eq_true_eq,Bool.not_eq_true',decide_eq_false_iff_not]
 have e: ∀ (f:LC×Int->OS S),jW k [Cl.mk (IA c.pos i) (IA c.neg i)] r f=f (IB [Fq i c] r):=fun f=>vY hk z.2 x.2 (by simp) (by omega) f
 simp only [e]
 unfold dY d_ MG
 by_cases hp:bP c.pos i=true
 ·simp only [hp,if_true]
  by_cases h1:(IB [Fq i c] r).2=0
  ·have hA:RF (IB [Fq i c] r).1:=kS z.2 x.2 h1
   have O:=hA.len
   simp only [h1,not_true,if_false,if_true]
   by_cases hn:bP c.neg i=true
   ·simp only [hn,if_true]
    by_cases h2:(FI r).2=0
    ·have q:=ju h2
     have E:=q.len
     simp only [h2,not_true,if_false,if_true]
     rw [vY hk hA.2 q.2 (by omega) (by omega)]
     by_cases B:(IB (IB [Fq i c] r).1 (FI r).1).2=0
     ·have hB:=kS hA.2 q.2 B
      have F:=hB.len
      simp only [B,not_true,if_false,if_true]
      rw [Bz hk A.2 hB.2 (by omega) (by omega)]
     grind
    grind
   ·simp only [hn,Bool.false_eq_true,if_false,if_true]
    rw [Bz hk A.2 hA.2 (by omega) (by omega)]
  grind
 ·simp only [hp,Bool.false_eq_true,if_false,if_true]
  by_cases hn:bP c.neg i=true
  ·simp only [hn,if_true]
   by_cases h2:(FI r).2=0
   ·have q:=ju h2
    have E:=q.len
    simp only [h2,not_true,if_false,if_true]
    have J: ∀ (f:LC×Int->OS S),jW k [Cl.mk (IA c.pos i) (IA c.neg i)] (FI r).1 f=f (IB [Fq i c] (FI r).1):=fun f=>vY hk z.2 q.2 (by simp) (by omega) f
    rw [J]
    by_cases B:(IB [Fq i c] (FI r).1).2=0
    ·have hB:=kS z.2 q.2 B
     have F:=hB.len
     simp only [B,not_true,if_false,if_true]
     rw [Bz hk A.2 hB.2 (by omega) (by omega)]
    grind
   grind
  ·simp only [hn,Bool.false_eq_true,if_false,if_true]
   have:=Bz hk A.2 z.2 (by omega) (by simp) I
   exact this
theorem aeT (hk:Fu k) (I:LC×Int->OS S) {i:Int} {q:LC} (E:RF q) {l:LC} (hl:aq l) (hlen:l.length<2147483648):
  ∀ (r p:LC) (m:Nat) (h:LC),l=p++r->r.length<m->RF h->qc k I i q l m h (p.length:Int)=I (xK (dY i q) h r):=by
 intro r
 induction r with
 |nil=>
  intro p m h e z B
  obtain ⟨m,rfl,A⟩:=pw z
  simp only [qc,wZ,xu e,n3];rfl
 |cons x r O=>
  intro p m h e z B
  obtain ⟨m,rfl,A⟩:=pw z
  obtain ⟨F,J,L,T⟩:=qF e (by omega)
  have M:aX x:=hl x (by grind)
  simp only [qc,wZ,F,ae,J,p9,ag hk,aiU hk E B M,bG,L]
  grind [n3,N5,xK,ae]
theorem aiL (hk:Fu k) (i:Int) (I:LC×Int->OS S):yP k i I=I (if lL i then ([⟨e_ 0 i,0⟩],0) else ([],2)):=by
 simp only [yP,ag hk,vV hk u0]
 grind [lL,B7,Dz,n3,Dy,ae]
theorem ajb (hk:Fu k) {f r:LC} {i:Int} (hf:aq f) (x:aq r) (h1:f.length<2147483648) (h2:r.length<2147483648) (I:LC×Int->OS S):yR k f i r I=I (iH f i r):=by
 simp only [yR,ag hk,Hc hk (l:=[f,r]) (by grind) (by simp),aiL hk]
 have e:[f,r].all xV=(xV f&&xV r):=by simp
 unfold iH
 by_cases ha:(xV f&&xV r)=true
 ·rw [e,if_pos ha,ha,Bool.true_and]
  rw [show ((0:Int)==0)=true from rfl,uX,n3]
  cases hd:lL i with
  |true=>
   rw [if_pos rfl,if_pos rfl]
   rw [show ((0:Int)==0)=true from rfl,uX,n3]
   simp only [tK,DO,HO]
   have q:=(L8 x).1 (by grind)
   exact aeT hk I q hf h1 f [] k [] rfl (by omega) rA
  |false=>
   rfl
 simp_all [if_neg,ae]
theorem agr {m n b:Nat}:(LV m n b).1<16777216:=by
 have h1:m&&&xA<16777216:=Nat.lt_of_le_of_lt Nat.and_le_right (by decide)
 have h2:gO m n<=m&&&xA:=Nat.and_le_left
 unfold LV
 split
 ·omega
 ·split
  ·simp
  ·split
   ·simp
   ·exact Nat.or_lt_two_pow (n:=24) (by omega) (by omega)
theorem LK (s i b:Int):0<=(Db s i b).1/\(Db s i b).1<16777216:=by
 grind [Db,agr]
theorem LJ (c:Cl) (i b:Int):RC (dw c i b).1:=by
 unfold dw
 split
 ·split
  ·split
   ·exact ⟨LK _ _ _,LK _ _ _⟩
   ·exact oA
  ·exact oA
 ·exact oA
def dK (i b:Int) (h:LC) (c:Cl):LC×Int:=(h++[(dw c i b).1],(dw c i b).2)
def tb (f:LC) (i b:Int):LC×Int:=if xV f then if (xK (dK i b) [] f).2=0 then bp (xK (dK i b) [] f).1 else ([],(xK (dK i b) [] f).2) else ([],2)
theorem KH {i b:Int}: ∀ {r h:LC},aq h->aq (xK (dK i b) h r).1/\(xK (dK i b) h r).1.length<=h.length+r.length:=by
 intro r
 induction r with
 |nil=>intro h q;exact ⟨q,by show h.length<=_;omega⟩
 |cons c r x=>
  intro h q
  unfold xK
  split
  ·have:=x (h:=(dK i b h c).1) (M1 q fun d hd=>by simp at hd;subst hd;exact (LJ c i b).ok)
   grind [dK]
  ·exact ⟨fun d hd=>(by cases hd),by simp⟩
theorem aeR (hk:Fu k) (I:LC×Int->OS S) {i b:Int} (B:aG i) (hb:aG b) {l:LC} (hl:aq l) (hlen:l.length<2147483648):
  ∀ (r p:LC) (m:Nat) (h:LC),l=p++r->r.length<m->h.length+r.length<4294967296->qf k I i b l m h (p.length:Int)=I (xK (dK i b) h r):=by
 intro r
 induction r with
 |nil=>
  intro p m h e q A
  obtain ⟨m,rfl,z⟩:=pw q
  simp only [qf,l1,xu e,n3];rfl
 |cons x r M=>
  intro p m h e q A
  obtain ⟨m,rfl,z⟩:=pw q
  obtain ⟨E,F,J,O⟩:=qF e (by omega)
  have L:aX x:=hl x (by grind)
  simp only [ue] at A
  simp only [qf,l1,E,ae,F,p9,ag hk,DN,ai4 hk L B hb,bG,J]
  grind [J5,n3,xK,dK,ae]
theorem vX (hk:Fu k) {f:LC} {i b:Int} (hf:aq f) (hlen:f.length<1073741824) (z:aG i) (hb:aG b) (I:LC×Int->OS S):jV k f i b I=I (tb f i b):=by
 have x:=KH (i:=i) (b:=b) (r:=f) (h:=[]) (fun d hd=>by cases hd)
 simp only [List.length_nil] at x
 have q: ∀ (g:LC×Int->OS S),yT k f [] i b g=g (xK (dK i b) [] f):=fun g=>by
  simp only [yT,HQ]
  exact aeR hk g z hb hf (by omega) f [] k [] rfl (by omega) (by grind)
 simp only [jV,ag hk,Hc hk (l:=[f]) (by grind) (by simp),tK,q,kX hk x.1 (show _<2147483648 by omega)]
 grind [tb,n3,decide_eq_false,ae]
theorem kQ {f:LC} {i b:Int} (h:(tb f i b).2=0):RF (tb f i b).1:=by
 unfold tb at h ⊢
 split
 ·next q=>
  rw [if_pos q] at h
  split
  ·next x=>
   rw [if_pos x] at h
   exact qX (KH fun d hd=>by cases hd).1 h
  grind
 grind
theorem apW {f:LC} {i b:Int} (h:(tb f i b).2≠0):(tb f i b).1=[]:=by
 grind [tb,agf]
def AD (s:Nat) (f:LC):Nat:=f.foldl (fun s c=>s|||(c.pos.toNat|||c.neg.toNat)) s
def fS (f:LC):Nat:=AD 0 f&&&xA
def ie (f:LC):Int:=((fS f:Nat):Int)
def jJ (f:LC) (i:Nat):Bool:=f.any fun c=>c.pos.toNat.testBit i||c.neg.toNat.testBit i
theorem ahx (i:Nat): ∀ {f:LC} {s:Nat},(AD s f).testBit i=(s.testBit i||jJ f i):=by
 intro f
 induction f<;>simp_all [AD,jJ,Bool.or_assoc]
theorem D7 (f:LC) (i:Nat):(fS f).testBit i=(jJ f i&&decide (i<24)):=by
 grind [fS,g8,ahx]
theorem D6 (f:LC):fS f<16777216:=Nat.lt_of_le_of_lt Nat.and_le_right (by decide)
theorem aeB (hk:Fu k) (I:Int->OS S) {l:LC} (hl:aq l) (hlen:l.length<4294967296):
  ∀ (r p:LC) (m:Nat) (s:Nat),l=p++r->r.length<m->s<4294967296->qb k I l m (s:Int) (p.length:Int)=I (((AD s r&&&xA:Nat):Int)):=by
 intro r
 induction r with
 |nil=>
  intro p m s e A hs
  obtain ⟨m,rfl,z⟩:=pw A
  simp only [qb,wY,xu e,n3,ag hk,vW hk (BD.of hs)]
  rfl
 |cons x r B=>
  intro p m s e A hs
  obtain ⟨m,rfl,z⟩:=pw A
  obtain ⟨E,F,J,L⟩:=qF e (by omega)
  have q:aX x:=hl x (by grind)
  have ho:BD (ep x.pos x.neg):=FX q.1 q.2
  have M:s|||(x.pos.toNat|||x.neg.toNat)<4294967296:=by
   have h1:=q.1.1;have h2:=q.1.2;have T:=q.2.1;have W:=q.2.2
   have O:(2:Nat)^32=4294967296:=by decide
   exact Nat.or_lt_two_pow (n:=32) hs (Nat.or_lt_two_pow (n:=32) (by omega) (by omega))
  have es:ep (s:Int) (ep x.pos x.neg)=((s|||(x.pos.toNat|||x.neg.toNat):Nat):Int):=by rfl
  simp only [qb,wY,E,ae,F,p9,pa q.1 q.2,pa (BD.of hs) ho,J,es]
  exact B (p++[x]) m _ L z M
theorem Ha (hk:Fu k) {f:LC} (hf:aq f) (hlen:f.length<4294967296) (I:Int->OS S):pg k f I=I (ie f):=by
 simp only [pg,HL]
 exact aeB hk I hf hlen f [] k 0 rfl (by omega) (by decide)
def dg (f:LC) (d:Int):Bool:=decide (∀i∈bW (fS f),(i:Int)<d)
theorem RZ (hk:Fu k) {f:LC} {d:Int} (hf:aq f) (hlen:f.length<4294967296) (hd:0<=d) (q:d<9223372036854775808) (I:Bool->OS S):lK k f d I=I (dg f d):=by
 simp only [lK,aY,ag hk,Ha hk hf hlen]
 by_cases h:d>=24
 ·grind [dg,sP]
 ·rw [if_neg h]
  obtain ⟨n,rfl⟩: ∃n:Nat,d=n:=⟨d.toNat,by omega⟩
  rw [iR n (by omega),yq (by omega),EJ,Nat.min_eq_left (by omega)]
  congr 1
  rw [ie,Es,dg,Bool.eq_iff_iff]
  simp only [beq_iff_eq,decide_eq_true_eq]
  have hdiv:(fS f/2^n=0)↔fS f<2^n:=Nat.div_eq_zero_iff_lt (Nat.two_pow_pos n)
  constructor
  ·grind [sP,Nat.lt_of_lt_of_le,Nat.pow_le_pow_right,Nat.testBit_lt_two_pow]
  ·intro x
   have:fS f<2^n:=by
    apply Nat.lt_pow_two_of_testBit
    grind [sP,oZ,D6]
   omega
def kz (c:Cl):Bool:= !bS c
def dv (l:LC):LC:=l.filter kz
def cV (f:LC):Bool:=xV f&&f.all fun c=> !bS c
def zp (f:LC):Prop:=RF f/\ ∀c∈f,bS c=false
theorem oB {f:LC} (h:aq f):cV f=true↔zp f:=by
 grind [cV,zp,L8]
theorem zp.right {f:LC} (h:zp f):cV f=true:=(oB h.1.2).2 h
theorem Ds {l:LC} {c:Cl} (h:c∈dv l):c∈l/\bS c=false:=by
 have:=List.mem_filter.1 h
 grind [kz]
theorem Jz {l:LC} (h:aq l):aq (dv l):=fun c hc=>h c (Ds hc).1
theorem LG {l:LC} (hl:aq l) (hc: ∀c∈l,bS c=false) (h:(bp l).2=0):zp (bp l).1:=by
 refine ⟨qX hl h,fun c q=> ?_⟩
 grind [bp,ta]
theorem GW:zp []:=⟨rA,fun c hc=>by cases hc⟩
theorem Bn {c:Cl} (h:RC c) (h':bS c=false):zp [c]:=⟨gS h,fun d hd=>by grind⟩
theorem Jy (l:LC):(dv l).length<=l.length:=List.length_filter_le _ _
theorem aeq (hk:Fu k) (I:Int->OS S) {l:LC} (hl:aq l) (hlen:l.length<2147483648):
  ∀ (r p:LC) (m:Nat),l=p++r->r.length<m-> ∃v:Int,decide (v>=0)=r.any bS/\qP k I l m (p.length:Int)=I v:=by
 intro r
 induction r with
 |nil=>
  intro p m h z
  obtain ⟨m,rfl,q⟩:=pw z
  exact ⟨-1,rfl,by grind [qP,yd,n3]⟩
 |cons x r A=>
  intro p m h z
  obtain ⟨m,rfl,q⟩:=pw z
  obtain ⟨E,F,J,B⟩:=qF h (by omega)
  have L:aX x:=hl x (by grind)
  obtain ⟨v,hv,M⟩:=A (p++[x]) m B q
  grind [qP,yd,ae,ag,Rf,n3]
theorem Hb (hk:Fu k) {f:LC} (hf:aq f) (hlen:f.length<2147483648) (I:Bool->OS S):pd k f I=I (cV f):=by
 obtain ⟨v,hv,x⟩:=aeq hk (fun r1:Int=>(fun q:Bool=>I (!q)) (decide (r1>=0))) hf hlen f [] k rfl (by omega)
 simp only [pd,ag hk,rH hk hf hlen,DU,DW,IN]
 grind [cV,xV,ae,n3]
theorem aGQ (hk:Fu k) (I:Int->OS S) {l:List (LC)} (hl: ∀f∈l,aq f/\f.length<2147483648) (hlen:l.length<4294967296):
  ∀ (r p:List (LC)) (m:Nat),l=p++r->r.length<m->ix k I l m (p.length:Int)=I (if r.all cV then 0 else 2):=by
 intro r
 induction r with
 |nil=>
  grind [pw,ix,o7,n3]
 |cons x r A=>
  intro p m h q
  obtain ⟨m,rfl,z⟩:=pw q
  obtain ⟨B,E,F,J⟩:=qF h (by omega)
  have L:=hl x (by grind)
  grind [ix,o7,ae,ag,Hb,n3]
theorem aH9 (hk:Fu k) {l:List (LC)} (hl: ∀f∈l,aq f/\f.length<2147483648) (hlen:l.length<4294967296) (I:Int->OS S):sb k l I=I (if l.all cV then 0 else 2):=by
 simp only [sb,az8]
 exact aGQ hk I hl hlen l [] k rfl (by omega)
def gN (l:LC):LC×Int:=bp (dv l)
def sa (f:LC):LC×Int:=if xV f then gN f else ([],2)
def sg (f:LC):LC×Int:=if xV f then if (FI f).2=0 then gN (FI f).1 else ([],(FI f).2) else ([],2)
theorem Fc {l:LC} (hl:aq l) (h:(gN l).2=0):zp (gN l).1:=LG (Jz hl) (fun c hc=>(Ds hc).2) h
theorem FT {f:LC} (h:(sa f).2=0) (hf:aq f):zp (sa f).1:=by
 grind [sa,Fc]
theorem FU {f:LC} (h:(sg f).2=0) (hf:aq f):zp (sg f).1:=by
 unfold sg at h ⊢
 split
 ·next x=>
  rw [if_pos x] at h
  split
  ·next q=>rw [if_pos q] at h;exact Fc (ju q).2 h
  grind
 grind
theorem Rn (hk:Fu k) {c:Cl} (hc:aX c) (I:Cl×Bool->OS S):tJ k c I=I (c,kz c):=by
 simp only [tJ,ag hk,Rf hk hc];rfl
theorem ae0 (hk:Fu k) (I:LC->OS S) {l:LC} (hl:aq l) (hlen:l.length<2147483648):
  ∀ (r p:LC) (m:Nat) (o:LC),l=p++r->r.length<m->o.length+r.length<4294967296->l8 k I l m (p.length:Int) o=I (o++dv r):=by
 intro r
 induction r with
 |nil=>
  grind [pw,l8,wW,n3,dv]
 |cons x r J=>
  intro p m o h q ho
  obtain ⟨m,rfl,z⟩:=pw q
  obtain ⟨A,B,E,L⟩:=qF h (by omega)
  have F:aX x:=hl x (by grind)
  simp only [ue] at ho
  simp only [l8,wW,A,ae,B,p9,ag hk,Rn hk F,E]
  grind [ae,J5,dv,n3]
theorem aji (hk:Fu k) {l:LC} (hl:aq l) (hlen:l.length<2147483648) (I:LC->OS S):yN k l I=I (dv l):=by
 simp only [yN,HJ]
 have:=ae0 hk I hl hlen l [] k [] rfl (by omega) (by grind)
 grind
theorem Rp (hk:Fu k) {f:LC} (hf:aq f) (hlen:f.length<2147483648) (I:LC×Int->OS S):tI k f I=I (sa f):=by
 have:=Jy f
 simp only [tI,ag hk,rH hk hf hlen,aji hk hf hlen,kX hk (Jz hf) (show (dv f).length<2147483648 by omega)]
 unfold sa
 cases xV f with
 |true=>rfl
 |false=>rfl
theorem ajd (hk:Fu k) {f:LC} (hf:aq f) (hlen:f.length<2147483648) (I:LC×Int->OS S):yI k f I=I (sg f):=by
 simp only [yI,ag hk,aja hk hf hlen,bG]
 unfold sg
 cases xV f with
 |true=>
  rw [if_pos rfl,if_pos rfl]
  by_cases q:(FI f).2=0
  ·have x:=ju q
   rw [decide_eq_true q,uX,n3,if_pos q,Rp hk x.2 x.lt]
   unfold sa
   rw [if_pos x.right]
  grind [ae]
 |false=>
  rfl
def M3 (f g:LC):LC×Int:=gN (meets f g)
def EQ (f g:LC):LC×Int:=if cV f&&cV g then IC f g else ([],2)
theorem ajf (hk:Fu k) {f g:LC} (hf:aq f) (q:aq g) (h1:f.length<1073741824) (h2:g.length<1073741824) (I:LC×Int->OS S):yL k f g I=I (IC f g):=by
 simp only [yL,ag hk,zg]
 rw [J5 (by grind),J5 (by omega),kX hk (M1 hf q) (by grind)]
 rfl
theorem aH8 (hk:Fu k) {f g:LC} (hf:aq f) (q:aq g) (h1:f.length<1073741824) (h2:g.length<1073741824) (I:LC×Int->OS S):hL k f g I=I (EQ f g):=by
 simp only [hL,ag hk,aH9 hk (l:=[f,g]) (by grind) (by simp),ajf hk hf q h1 h2]
 have e:[f,g].all cV=(cV f&&cV g):=by simp
 unfold EQ
 rw [e]
 cases (cV f&&cV g)<;>grind [n3,ae]
theorem Af {f g:LC} (hf:zp f) (q:zp g) (h:(IC f g).2=0):zp (IC f g).1:=
 LG (M1 hf.1.2 q.1.2) (fun c hc=>by
  rcases xO.1 hc with h|h
  ·exact hf.2 c h
  ·exact q.2 c h) h
theorem ajc (hk:Fu k) {b c:Cl} (hb:aX b) (hc:aX c) (I:Cl×Bool->OS S):yO k b c I=I (d9 c b,kz (d9 c b)):=by
 simp_all [yO,ag,G_,Rn,Aw]
theorem ae1 (hk:Fu k) (I:LC->OS S) {c:Cl} (hc:aX c) {l:LC} (hl:aq l) (hlen:l.length<2147483648):
  ∀ (r p:LC) (m:Nat) (o:LC),l=p++r->r.length<m->o.length+r.length<4294967296->p8 k I c l m (p.length:Int) o=I (o++dv (r.map (d9 c))):=by
 intro r
 induction r with
 |nil=>
  intro p m o h q ho
  obtain ⟨m,rfl,z⟩:=pw q
  grind [p8,wV,n3,dv]
 |cons x r J=>
  intro p m o h q ho
  obtain ⟨m,rfl,z⟩:=pw q
  obtain ⟨A,B,E,L⟩:=qF h (by omega)
  have F:aX x:=hl x (by grind)
  simp only [ue] at ho
  simp only [p8,wV,A,ae,B,p9,ag hk,ajc hk F hc,E]
  cases hb:kz (d9 c x)<;>grind [ae,J5,dv,n3]
theorem ajj (hk:Fu k) {c:Cl} (hc:aX c) {l:LC} (hl:aq l) (hlen:l.length<2147483648) (I:LC->OS S):yM k l c I=I (dv (l.map (d9 c))):=by
 simp only [yM,HI]
 have:=ae1 hk I hc hl hlen l [] k [] rfl (by omega) (by grind)
 grind
theorem aeO (hk:Fu k) (I:LC×Int->OS S) {g f:LC} (hf:aq f) (E:aq g) (J:f.length<32768) (L:g.length<32768):
  ∀ (r p:LC) (m:Nat) (o:LC),f=p++r->r.length<m->aq o->o.length+r.length*g.length<1073741825->p_ k I g f m (p.length:Int) o=I (bp (o++dv (meets r g))):=by
 intro r
 induction r with
 |nil=>
  intro p m o h A q ho
  obtain ⟨m,rfl,z⟩:=pw A
  grind [p_,wX,n3,ag,kX,meets,dv]
 |cons x r M=>
  intro p m o h A q ho
  obtain ⟨m,rfl,z⟩:=pw A
  obtain ⟨O,T,W,Y⟩:=qF h (by omega)
  have F:aX x:=hf x (by grind)
  have hmul:(x::r).length*g.length=r.length*g.length+g.length:=by grind
  rw [hmul] at ho
  have B:=Jy (g.map (d9 x))
  rw [List.length_map] at B
  simp only [p_,wX,O,ae,T,p9,ag hk,ajj hk F E (show g.length<2147483648 by omega),W]
  rw [J5 (by omega),M (p++[x]) m _ Y z (M1 q fun c hc=>by
   obtain ⟨b,hb,rfl⟩:=wD.1 (Ds hc).1
   exact Aw F (E b hb)) (by grind)]
  grind [dv,meets]
theorem ajg (hk:Fu k) {f g:LC} (hf:aq f) (q:aq g) (h1:f.length<32768) (h2:g.length<32768) (I:LC×Int->OS S):pe k f g I=I (M3 f g):=by
 simp only [pe,HK]
 have hb:f.length*g.length<1073741824:=Nat.lt_of_le_of_lt (Nat.mul_le_mul (Nat.le_of_lt_succ h1) (Nat.le_of_lt_succ h2)) (by decide)
 have:=aeO hk I hf q h1 h2 f [] k [] rfl (by omega) (fun c hc=>by cases hc) (by grind)
 grind [M3,gN]
theorem vo {f g:LC} (hf:aq f) (q:aq g) (h:(M3 f g).2=0):zp (M3 f g).1:=Fc (ND hf q) h
theorem Um {s i:Int} {j:Nat} (h:(IA s i).toNat.testBit j=true):s.toNat.testBit j=true:=by
 grind [IA,EJ,mm]
theorem Ap {c:Cl}:bS c=false↔ ∀j,¬ (c.pos.toNat.testBit j=true/\c.neg.toNat.testBit j=true):=by
 unfold bS
 rw [Bool.not_eq_false',decide_eq_true_eq]
 constructor
 ·intro h j ⟨h1,h2⟩
  have:(c.pos.toNat&&&c.neg.toNat).testBit j=true:=by grind
  grind
 ·intro h
  apply Nat.eq_of_testBit_eq
  grind
theorem Aa {c:Cl} {i:Int} (h:bS c=false):bS (Fq i c)=false:=by
 rw [Ap] at h ⊢
 exact fun j ⟨h1,h2⟩=>h j ⟨Um h1,Um h2⟩
def LX (i:Int) (c:Cl) (h:LC) (q:LC×Int):LC×Int:=
 if q.2=0 then if (M3 [Fq i c] q.1).2=0 then IC h (M3 [Fq i c] q.1).1 else ([],(M3 [Fq i c] q.1).2) else ([],q.2)
def ID (i:Int) (r h:LC) (c:Cl):LC×Int:=
 if bP c.pos i then LX i c h (sa r) else if bP c.neg i then LX i c h (sg r) else IC h [Fq i c]
def iG (f:LC) (i:Int) (r:LC):LC×Int:=if cV f&&xV r&&lL i then xK (ID i r) [] f else ([],2)
theorem N6 {i:Int} {c:Cl} {h:LC} {q:LC×Int} (z:zp h) (A:q.2=0->zp q.1) (x:(LX i c h q).2=0):zp (LX i c h q).1:=by
 unfold LX at x ⊢
 split
 ·next h1=>
  rw [if_pos h1] at x
  split
  ·next h2=>rw [if_pos h2] at x;exact Af z (vo (gS (kg i c)).2 (A h1).1.2 h2) x
  grind
 grind
theorem ahL {i:Int} {r h:LC} {c:Cl} (x:RF r) (z:zp h) (hc:bS c=false) (q:(ID i r h c).2=0):zp (ID i r h c).1:=by
 unfold ID at q ⊢
 split
 ·next h1=>rw [if_pos h1] at q;exact N6 z (fun h=>FT h x.2) q
 ·next h1=>
  rw [if_neg h1] at q
  split
  ·next h2=>rw [if_pos h2] at q;exact N6 z (fun h=>FU h x.2) q
  grind [Af,Bn,kg,Aa]
theorem acX {i:Int} {r:LC} (q:RF r): ∀ {l h:LC},(∀c∈l,bS c=false)->zp h->(xK (ID i r) h l).2=0->zp (xK (ID i r) h l).1:=by
 intro l
 induction l<;>grind [xK,ahL]
theorem ahO {f r:LC} {i:Int} (hf:aq f) (q:aq r) (h:(iG f i r).2=0):zp (iG f i r).1:=by
 unfold iG at h ⊢
 split
 ·next hc=>
  rw [if_pos hc] at h
  simp only [pX] at hc
  exact acX ((L8 q).1 hc.1.2) ((oB hf).1 hc.1.1).2 GW h
 grind
theorem faJ (hk:Fu k) (I:LC×Int->OS S) (x:Int->LC->OS S) (i:Int) (r f:LC) {h:LC} {v:Int} {g:LC} {e:Int} (A:RF h) (B:e=0->RF g):
  kq k I x i r f v h k g e=if e=0 then if (IC h g).2=0 then x (oa .i64 (v+1)) (IC h g).1 else I ([],(IC h g).2) else I ([],e):=by
 obtain ⟨q,E⟩: ∃q,k=q+1:=⟨k-1,by omega⟩
 have: ∀j,j=q+1->kq k I x i r f v h j g e=wU k I i r f v h x g e:=by rintro j rfl;rfl
 rw [this k E]
 simp only [wU,bG]
 by_cases z:e=0
 ·have F:=A.len;have J:=(B z).len
  rw [decide_eq_true z,ae,if_pos z,ag hk,ajf hk A.2 (B z).2 (by omega) (by omega)]
  grind [n3,ae]
 grind [n3,ae]
theorem aeP (hk:Fu k) (I:LC×Int->OS S) {i:Int} {q:LC} (z:RF q) {l:LC} (hl:aq l) (hc: ∀c∈l,bS c=false) (hlen:l.length<2147483648):
  ∀ (r p:LC) (m:Nat) (h:LC),l=p++r->r.length<m->zp h->lY k I i q l m (p.length:Int) h=I (xK (ID i q) h r):=by
 intro r
 induction r with
 |nil=>
  intro p m h e E T
  obtain ⟨m,rfl,F⟩:=pw E
  simp only [lY,qL,xu e,n3];rfl
 |cons x r ih=>
  intro p m h e E T
  obtain ⟨m,rfl,F⟩:=pw E
  obtain ⟨W,Y,e3,e4⟩:=qF e (by omega)
  have B:aX x:=hl x (by grind)
  have J:bS x=false:=hc x (by grind)
  have L:=Bn (kg i x) (Aa J)
  have key: ∀ (g:LC) (e:Int),(e=0->zp g)->(ID i q h x=if e=0 then IC h g else ([],e))->kq k I (lY k I i q l m) i q l (p.length:Int) h k g e=I (xK (ID i q) h (x::r)):=by
   intro g e M A
   rw [faJ hk _ _ _ _ _ T.1 (fun h=>(M h).1),xK,A]
   grind [Af]
  have em: ∀ (s:LC),RF s-> ∀ (f:LC×Int->OS S),pe k [Cl.mk (IA x.pos i) (IA x.neg i)] s f=f (M3 [Fq i x] s):=fun s hs f=>ajg hk L.1.2 hs.2 (by simp) (by have:=hs.len;omega) f
  simp only [lY,qL,W,ae,Y,p9,ag hk,vW hk B.1,vW hk B.2,rF hk B.1,rF hk B.2,Rp hk z.2 z.lt,ajd hk z.2 z.lt,bG]
  cases hp:bP x.pos i with
  |true=>
   rw [ae]
   by_cases h1:(sa q).2=0
   ·have ho:=FT h1 z.2
    rw [decide_eq_true h1,ae,em _ ho.1]
    exact key _ _ (fun O=>vo L.1.2 ho.1.2 O) (by grind [ID,LX])
   grind [n3,ID,LX]
  |false=>
   rw [n3]
   cases hn:bP x.neg i with
   |true=>
    rw [ae]
    by_cases h1:(sg q).2=0
    ·have ho:=FU h1 z.2
     rw [decide_eq_true h1,ae,em _ ho.1]
     exact key _ _ (fun O=>vo L.1.2 ho.1.2 O) (by grind [ID,LX])
    grind [n3,ID,LX]
   |false=>
    grind [n3,Fq,ID]
theorem aje (hk:Fu k) {f r:LC} {i:Int} (hf:aq f) (q:aq r) (h1:f.length<2147483648) (h2:r.length<2147483648) (I:LC×Int->OS S):yJ k f i r I=I (iG f i r):=by
 simp only [yJ,HH,ag hk,Hb hk hf h1,ai8 hk,rH hk q h2]
 unfold iG lL
 cases ha:cV f with
 |false=>rfl
 |true=>
  rw [uX,n3]
  by_cases hd:0<=i/\i<24
  ·rw [decide_eq_true hd,uX,n3]
   cases hb:xV r with
   |false=>rfl
   |true=>
    rw [uX,n3]
    exact aeP hk I ((L8 q).1 hb) hf ((oB hf).1 ha).2 h1 f [] k [] rfl (by omega) GW
  grind [ae]
end
end Go.Proofs.YtfffkmcpnggkdaaGreatDoor
