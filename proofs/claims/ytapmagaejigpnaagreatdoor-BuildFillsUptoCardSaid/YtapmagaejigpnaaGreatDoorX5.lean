/- Part 5 of a proof: the sources, with their names and remarks, lie in wip/. -/
import Derived.Test.YtapmagaejigpnaaGreatDoorX4
import Derived.Test.YtapmagaejigpnaaGreatDoorRows
import Derived.ProofKit
import Derived.OpenShut
import Derived.ChangeArms
import Derived.Deep.Slices
import Derived.Shelf.SlSortCmp.NoneTotal
import Derived.Ground.SlsfProg
import Derived.Test.YtapmagaejigpnaaGreatDoorProg
import Derived.Shelf.Spec.TrailingZeros
import Derived.RangeFuncBound
import Derived.RangeFuncLeaves
import Derived.RangeFuncOwn
import Derived.OwnWalkIn
import Derived.TacticsInMore
import Derived.LoopNIn
import Derived.LoopIn
import Derived.Maps.RangeWalk
import Derived.Maps.AppendAt
namespace Go.Proofs.YtapmagaejigpnaaGreatDoor
open Go PI
set_option linter.unusedVariables false
set_option linter.unusedSimpArgs false
abbrev M24:Nat:=16777215
theorem rA {n:Nat} (h:n<24):2^n<4294967296:=Nat.lt_of_lt_of_le (Nat.pow_lt_pow_right (by decide) h) (by decide)
theorem kq (n:Nat):(2:Int)^n=((2^n:Nat):Int):=by simp
theorem uA (m n:Nat):Int.fdiv (m:Int) ((2:Int)^n)=((m/2^n:Nat):Int):=by
 rw [kq,Int.fdiv_eq_ediv_of_nonneg _ (Int.natCast_nonneg _),Int.natCast_ediv]
variable {S:Type} {k:Nat}
theorem sq (hk:Fu k) (i:Int) (ret:Bool→Option S):jC k i ret=ret (decide (0≤i∧i<24)):=by
 simp only [jC,FN,bW]
 by_cases h:i≥0
 ·rw [if_pos h];congr 1;simp;omega
 ·rw [if_neg h];congr 1;simp;omega
theorem Sr (hk:Fu k) {m:Nat} (hm:m<4294967296) (ret:Bool→Option S):kC k (m:Int) ret=ret (decide (m<16777216)):=by
 simp only [kC,FJ]
 rw [show (16777215:Int)=((16777215:Nat):Int) from rfl,tv hm (by decide)]
 congr 1
 rw [Bool.eq_iff_iff]
 simp only [beq_iff_eq,decide_eq_true_eq]
 have key:gW m 16777215=0↔m<16777216:=by
  constructor
  ·intro h
   apply Nat.lt_pow_two_of_testBit (n:=24)
   intro i hi
   have h2:=lu m 16777215 i
   rw [h,Nat.zero_testBit] at h2
   have:(16777215:Nat).testBit i=false:=Nat.testBit_lt_two_pow (Nat.lt_of_lt_of_le (by decide:16777215<2^24) (Nat.pow_le_pow_right (by decide) hi))
   rw [this] at h2
   simpa using h2.symm
  ·intro h
   apply Nat.eq_of_testBit_eq
   intro i
   rw [lu,Nat.zero_testBit]
   by_cases hi:i<24
   ·have:(16777215:Nat).testBit i=true:=by
     rw [show (16777215:Nat)=2^24-1 from rfl,Nat.testBit_two_pow_sub_one];simpa using hi
    rw [this];simp
   ·have h2:(2:Nat)^24≤2^i:=Nat.pow_le_pow_right (by decide) (by omega)
    have:m.testBit i=false:=Nat.testBit_lt_two_pow (Nat.lt_of_lt_of_le h h2)
    rw [this];rfl
 omega
theorem Sp (hk:Fu k) {m:Nat} (hm:m<4294967296) (i:Int) (ret:Bool→Option S):fh k (m:Int) i ret=ret (decide (0≤i∧i<24)&&m.testBit i.toNat):=by
 simp only [fh,FI,sq hk,am hk]
 by_cases h:0≤i∧i<24
 ·obtain ⟨n,rfl⟩: ∃n:Nat,i=n:=⟨i.toNat,by omega⟩
  have hn:n<24:=by omega
  rw [decide_eq_true h,ag,Bool.true_and,e9 n (by omega),gE _ (by omega)]
  congr 1
  rw [Int.toNat_natCast,Nat.min_eq_left (by omega),uA,show (1:Int)=((1:Nat):Int) from rfl,hU (Nat.lt_of_le_of_lt (Nat.div_le_self _ _) hm) (by decide)]
  rw [Nat.testBit_eq_decide_div_mod_eq,Nat.and_one_is_mod,Bool.eq_iff_iff]
  simp only [beq_iff_eq,decide_eq_true_eq]
  omega
 ·rw [decide_eq_false h,ac,Bool.false_and]
theorem Ss (hk:Fu k) {m:Nat} (hm:m<4294967296) (i:Int) (ret:Int→Option S):fU k (m:Int) i ret=ret (if 0≤i∧i<24 then (((m&&&M24)|||2^i.toNat:Nat):Int) else ((m&&&M24:Nat):Int)):=by
 simp only [fU,FK,sq hk,am hk]
 have hand:aN .and .u32 (m:Int) 16777215=((m&&&M24:Nat):Int):=hU hm (by decide:(16777215:Nat)<4294967296)
 have hlt:m&&&M24<4294967296:=oH (n:=32) hm
 rw [hand]
 by_cases h:0≤i∧i<24
 ·obtain ⟨n,rfl⟩: ∃n:Nat,i=n:=⟨i.toNat,by omega⟩
  have hn:n<24:=by omega
  rw [decide_eq_true h,if_pos h,e9 n (by omega)]
  simp only [Bool.not_true,ac]
  rw [gE _ (by omega),Int.toNat_natCast,Nat.min_eq_left (by omega),Int.one_mul,kq,jg _ (rA hn),oJ hlt (rA hn)]
 ·rw [decide_eq_false h,if_neg h];rfl
theorem Su (hk:Fu k) {m:Nat} (hm:m<4294967296) (i:Int) (ret:Int→Option S):gG k (m:Int) i ret=ret (if 0≤i∧i<24 then ((gW (m&&&M24) (2^i.toNat):Nat):Int) else ((m&&&M24:Nat):Int)):=by
 simp only [gG,FL,sq hk,am hk]
 have hand:aN .and .u32 (m:Int) 16777215=((m&&&M24:Nat):Int):=hU hm (by decide:(16777215:Nat)<4294967296)
 have hlt:m&&&M24<4294967296:=oH (n:=32) hm
 rw [hand]
 by_cases h:0≤i∧i<24
 ·obtain ⟨n,rfl⟩: ∃n:Nat,i=n:=⟨i.toNat,by omega⟩
  have hn:n<24:=by omega
  rw [decide_eq_true h,if_pos h,e9 n (by omega)]
  simp only [Bool.not_true,ac]
  rw [gE _ (by omega),Int.toNat_natCast,Nat.min_eq_left (by omega),Int.one_mul,kq,jg _ (rA hn),tv hlt (rA hn)]
 ·rw [decide_eq_false h,if_neg h];rfl
theorem EJ (hk:Fu k) (n:Nat) (hn:n<18446744073709551616) (ret:Int→Option S):kE k (n:Int) ret=ret ((2^min n 24-1:Nat):Int):=by
 simp only [kE,FM]
 have e:(if (24:Int)<(n:Int) then (24:Int) else (n:Int))=((min n 24:Nat):Int):=by
  by_cases h:24<n
  ·rw [if_pos (by omega),Nat.min_eq_right (by omega)];rfl
  ·rw [if_neg (by omega),Nat.min_eq_left (by omega)]
 rw [e,e9 _ (by omega),gE _ (by omega),Int.toNat_natCast]
 congr 1
 generalize hq:min n 24=q
 have hq24:q≤24:=by omega
 rw [Nat.min_eq_left (by omega),Int.one_mul,kq]
 have h1:2^q≤2^24:=Nat.pow_le_pow_right (by decide) hq24
 have h0:0<2^q:=Nat.pos_of_ne_zero (by simp)
 have h24:(2:Nat)^24=16777216:=by decide
 rw [e9 _ (by omega)]
 have e2:((2^q:Nat):Int)-1=((2^q-1:Nat):Int):=by omega
 rw [e2,e9 _ (by omega),jg _ (by omega)]
def eD (m n:Nat):Nat:=(m&&&M24)&&&(2^min n 24-1)
def bZ (m n:Nat):Nat:=gW (m&&&M24) (2^min n 24-1)
def dL (m n b:Nat):Nat×Nat:=
 if bZ m n=0 then (eD m n,0) else if 24≤b then (0,10) else if bZ m n*2^b>16777215 then (0,10) else (eD m n|||(bZ m n*2^b),0)
theorem Sq (hk:Fu k) {m:Nat} (hm:m<4294967296) (n b:Nat) (hn:n<9223372036854775808) (hb:b<9223372036854775808) (ret:Int×Int→Option S):
  ig k (m:Int) (n:Int) (b:Int) ret=ret (((dL m n b).1:Int),((dL m n b).2:Int)):=by
 have hand:aN .and .u32 (m:Int) 16777215=((m&&&M24:Nat):Int):=hU hm (by decide:(16777215:Nat)<4294967296)
 have hlt:m&&&M24<16777216:=Nat.lt_of_le_of_lt Nat.and_le_right (by decide)
 have hbl:2^min n 24-1<4294967296:=by
  have:2^min n 24≤2^24:=Nat.pow_le_pow_right (by decide) (by omega)
  have h24:(2:Nat)^24=16777216:=by decide
  omega
 have hhi:bZ m n<16777216:=vC (n:=24) hlt
 have hlow:aN .and .u32 ((m&&&M24:Nat):Int) ((2^min n 24-1:Nat):Int)=((eD m n:Nat):Int):=hU (by omega) hbl
 have hhigh:aN .andNot .u32 ((m&&&M24:Nat):Int) ((2^min n 24-1:Nat):Int)=((bZ m n:Nat):Int):=tv (by omega) hbl
 simp only [ig,sz]
 rw [bW,bW,if_neg (by omega),if_neg (by omega)]
 simp only [EJ hk n (by omega),am hk,hand,hlow,hhigh]
 rw [e9 _ (by omega)]
 unfold dL
 by_cases h0:bZ m n=0
 ·rw [if_pos h0]
  simp [h0,ag]
 ·rw [if_neg h0]
  have hb0:(((bZ m n:Nat):Int)==0)=false:=by
   rw [Bool.eq_false_iff];intro h;exact h0 (by have:=eq_of_beq h;omega)
  simp only [hb0,ac,bW]
  by_cases h24:24≤b
  ·rw [if_pos (by omega),if_pos h24];rfl
  ·rw [if_neg (by omega),if_neg h24,e9 b (by omega),gE _ (by omega),Int.toNat_natCast,Nat.min_eq_left (by omega),kq]
   have hp:2^b≤2^23:=Nat.pow_le_pow_right (by decide) (by omega)
   have h23:(2:Nat)^23=8388608:=by decide
   have hmul:bZ m n*2^b<18446744073709551616:=by
    have:=Nat.mul_le_mul (Nat.le_of_lt hhi) hp
    omega
   have ec:((bZ m n:Nat):Int)*((2^b:Nat):Int)=((bZ m n*2^b:Nat):Int):=by simp
   rw [ec,e9 _ hmul]
   by_cases hg:bZ m n*2^b>16777215
   ·rw [if_pos (by omega),if_pos hg];rfl
   ·rw [if_neg (by omega),if_neg hg]
    rw [jg _ (by omega),gE _ (by omega),oJ (by have:eD m n≤m&&&M24:=Nat.and_le_left;omega) (by omega)]
    rfl
end Go.Proofs.YtapmagaejigpnaaGreatDoor
namespace Go.Proofs.YtapmagaejigpnaaGreatDoor
open Go PI
set_option linter.unusedVariables false
set_option linter.unusedSimpArgs false
set_option maxRecDepth 20000
variable {S:Type} {k:Nat}
def g5 (l:List Nat):Nat:=(l.map (2^ ·)).sum
theorem Jw {x a:Nat} (h:x.testBit a=false):x+2^a=x|||2^a:=by
 have h1:x=2^(a+1)*(x/2^(a+1))+x%2^(a+1):=(Nat.div_add_mod _ _).symm
 have hlt:x%2^(a+1)<2^a:=by
  have hb:(x%2^(a+1)).testBit a=false:=by rw [Nat.testBit_mod_two_pow,h];simp
  have hm:x%2^(a+1)<2^(a+1):=Nat.mod_lt _ (Nat.two_pow_pos _)
  apply Nat.lt_pow_two_of_testBit
  intro i hi
  by_cases hia:i=a
  ·rw [hia];exact hb
  ·exact Nat.testBit_lt_two_pow (Nat.lt_of_lt_of_le hm (Nat.pow_le_pow_right (by decide) (by omega)))
 generalize x/2^(a+1)=q at h1
 generalize x%2^(a+1)=r at h1 hlt
 have hp:(2:Nat)^(a+1)=2^a*2:=Nat.pow_succ 2 a
 have e1:2^a+r=2^a|||r:=by
  have:=Nat.two_pow_add_eq_or_of_lt hlt 1
  simpa using this
 have e2:x=2^(a+1)*q|||r:=by rw [h1];exact Nat.two_pow_add_eq_or_of_lt (by omega) q
 have e3:x+2^a=2^(a+1)*q|||(2^a+r):=by
  rw [←Nat.two_pow_add_eq_or_of_lt (by omega:2^a+r<2^(a+1)) q,h1];omega
 rw [e3,e1,e2,Nat.or_comm (2^a) r,←Nat.or_assoc]
theorem wY: ∀ (l:List Nat),l.Nodup→ ∀j,(g5 l).testBit j=decide (j∈l):=by
 intro l
 induction l with
 |nil=>intro _ j;simp [g5]
 |cons a l ih=>
  intro hn j
  have hn':=List.nodup_cons.1 hn
  have ha:(g5 l).testBit a=false:=by rw [ih hn'.2];simpa using hn'.1
  have e:g5 (a::l)=g5 l|||2^a:=by
   rw [←Jw ha];simp [g5];omega
  rw [e,Nat.testBit_or,ih hn'.2,Nat.testBit_two_pow]
  by_cases h:a=j
  ·subst h;simp
  ·have:j≠a:=Ne.symm h
   simp [h,this]
def dH (m:Nat):List Nat:=(List.range 24).filter m.testBit
theorem tB (m:Nat):(dH m).Nodup:=List.nodup_range.filter _
theorem mem_bitsN {m j:Nat}:j∈dH m↔j<24∧m.testBit j=true:=by simp [dH]
theorem JU (m:Nat):(dH m).length≤24:=by
 have:=List.length_filter_le m.testBit (List.range 24)
 simpa [dH] using this
theorem hX (j:Nat):M24.testBit j=decide (j<24):=by
 rw [show M24=2^24-1 from rfl,Nat.testBit_two_pow_sub_one]
def ints (l:List Nat):List Int:=l.map Int.ofNat
theorem MH (l:List Nat):(ints l).length=l.length:=by simp [ints]
end Go.Proofs.YtapmagaejigpnaaGreatDoor
namespace Go.Proofs.YtapmagaejigpnaaGreatDoor
open Go PI
set_option linter.unusedVariables false
set_option linter.unusedSimpArgs false
set_option maxRecDepth 20000
variable {S:Type} {k:Nat}
theorem Mm {α:Type} (p r:List α) (x:α):ar (p++x::r) (p.length:Int)=some x:=by simp [ar]
theorem hY {m:Nat} (h:m<16777216) {j:Nat} (hj:m.testBit j=true):j<24:=by
 apply Classical.byContradiction
 intro hn
 have:m<2^j:=Nat.lt_of_lt_of_le h (Nat.pow_le_pow_right (n:=2) (i:=24) (j:=j) (by decide) (by omega))
 rw [Nat.testBit_lt_two_pow this] at hj;cases hj
theorem AP (m:Nat):m<16777216↔ ∀j,m.testBit j=true→j<24:=by
 constructor
 ·intro h j hj;exact hY h hj
 ·intro h
  apply Nat.lt_pow_two_of_testBit (n:=24)
  intro i hi
  cases hb:m.testBit i with
  |false=>rfl
  |true=>have:=h i hb;omega
def a6 (n b x:Nat):Nat:=if x<n then x else x+b
theorem yF (n j:Nat):(2^min n 24-1).testBit j=decide (j<n∧j<24):=by
 rw [Nat.testBit_two_pow_sub_one,Bool.eq_iff_iff];simp;omega
theorem tA (m n j:Nat):(eD m n).testBit j=(m.testBit j&&decide (j<n∧j<24)):=by
 rw [eD,Nat.testBit_and,Nat.testBit_and,hX,yF,Bool.eq_iff_iff]
 simp only [Bool.and_eq_true,decide_eq_true_eq]
 constructor
 ·rintro ⟨⟨a,b⟩,c,d⟩;exact ⟨a,c,d⟩
 ·rintro ⟨a,c,d⟩;exact ⟨⟨a,d⟩,c,d⟩
theorem yG (m n j:Nat):(bZ m n).testBit j=(m.testBit j&&decide (n≤j∧j<24)):=by
 rw [bZ,lu,Nat.testBit_and,hX,yF,Bool.eq_iff_iff]
 simp only [Bool.and_eq_true,Bool.not_eq_true',decide_eq_true_eq,decide_eq_false_iff_not]
 constructor
 ·rintro ⟨⟨a,b⟩,c⟩;exact ⟨a,by omega,b⟩
 ·rintro ⟨a,b,c⟩;exact ⟨⟨a,c⟩,by omega⟩
theorem AI (m n b:Nat):dL m n b=if (∃x∈dH m,n≤x∧24≤x+b) then (0,10) else (g5 ((dH m).map (a6 n b)),0):=by
 have hnd:((dH m).map (a6 n b)).Nodup:=by
  have: ∀x y,a6 n b x=a6 n b y→x=y:=by
   intro x y h;unfold a6 at h;split at h<;>split at h<;>omega
  exact List.Pairwise.map (S:=fun a b=>a≠b) (R:=fun a b=>a≠b) _ (fun x y hxy h=>hxy (this x y h)) (tB m)
 have hset: ∀j,(g5 ((dH m).map (a6 n b))).testBit j=((eD m n).testBit j||(decide (b≤j)&&(bZ m n).testBit (j-b))):=by
  intro j
  rw [wY _ hnd,tA,yG,Bool.eq_iff_iff]
  simp only [decide_eq_true_eq,List.mem_map,mem_bitsN,Bool.or_eq_true,Bool.and_eq_true]
  constructor
  ·rintro ⟨x,⟨h1,h2⟩,rfl⟩
   unfold a6
   split
   ·exact .inl ⟨h2,by omega,h1⟩
   ·refine .inr ⟨by omega, ?_,by omega,by omega⟩
    rw [show x+b-b=x by omega];exact h2
  ·rintro (⟨h1,h2,h3⟩|⟨h1,h2,h3,h4⟩)
   ·exact ⟨j,⟨h3,h1⟩,by unfold a6;rw [if_pos h2]⟩
   ·exact ⟨j-b,⟨h4,h2⟩,by unfold a6;rw [if_neg (by omega)];omega⟩
 have hhigh: ∀j,(bZ m n).testBit j=true↔(j∈dH m∧n≤j):=by
  intro j
  rw [yG,mem_bitsN];simp;constructor
  ·rintro ⟨a,b,c⟩;exact ⟨⟨c,a⟩,b⟩
  ·rintro ⟨⟨a,b⟩,c⟩;exact ⟨b,c,a⟩
 unfold dL
 by_cases h0:bZ m n=0
 ·rw [if_pos h0,if_neg]
  ·congr 1
   apply Nat.eq_of_testBit_eq
   intro j
   rw [hset,h0,Nat.zero_testBit,Bool.and_false,Bool.or_false]
  ·rintro ⟨x,h1,h2,h3⟩
   have:=(hhigh x).2 ⟨h1,h2⟩
   rw [h0,Nat.zero_testBit] at this;cases this
 ·rw [if_neg h0]
  have hex: ∃j,(bZ m n).testBit j=true:=by
   apply Classical.byContradiction
   intro hne
   apply h0
   apply Nat.eq_of_testBit_eq
   intro j
   rw [Nat.zero_testBit]
   cases hb:(bZ m n).testBit j with
   |false=>rfl
   |true=>exact absurd ⟨j,hb⟩ hne
  have hmul: ∀j,(bZ m n*2^b).testBit j=(decide (b≤j)&&(bZ m n).testBit (j-b)):=by
   intro j;rw [Nat.testBit_mul_two_pow]
  by_cases h24:24≤b
  ·rw [if_pos h24]
   obtain ⟨j,hj⟩:=hex
   have:=(hhigh j).1 hj
   rw [if_pos ⟨j,this.1,this.2,by omega⟩]
  ·rw [if_neg h24]
   have hlt:=AP (bZ m n*2^b)
   by_cases hg:bZ m n*2^b>16777215
   ·rw [if_pos hg,if_pos]
    apply Classical.byContradiction
    intro hne
    have:bZ m n*2^b<16777216:=hlt.2 fun j hj=>by
     rw [hmul] at hj
     simp only [Bool.and_eq_true,decide_eq_true_eq] at hj
     have h1:=(hhigh _).1 hj.2
     apply Classical.byContradiction
     intro h2
     exact hne ⟨j-b,h1.1,h1.2,by omega⟩
    omega
   ·rw [if_neg hg,if_neg]
    ·congr 1
     apply Nat.eq_of_testBit_eq
     intro j
     rw [hset,Nat.testBit_or,hmul]
    ·rintro ⟨x,h1,h2,h3⟩
     have hx:(bZ m n*2^b).testBit (x+b)=true:=by
      rw [hmul,decide_eq_true (by omega),Bool.true_and,show x+b-b=x by omega]
      exact (hhigh x).2 ⟨h1,h2⟩
     have:=hlt.1 (by omega) _ hx
     omega
def it (m:Nat) (i:Int):Nat:=if 0≤i∧i<24 then eD m i.toNat|||((m&&&M24)/2^(i.toNat+1)*2^i.toNat) else m&&&M24
theorem So (hk:Fu k) {m:Nat} (hm:m<4294967296) (i:Int) (ret:Int→Option S):kB k (m:Int) i ret=ret ((it m i:Nat):Int):=by
 simp only [kB,FH,sq hk,am hk]
 have hand:aN .and .u32 (m:Int) 16777215=((m&&&M24:Nat):Int):=hU hm (by decide:(16777215:Nat)<4294967296)
 have hlt:m&&&M24<16777216:=Nat.lt_of_le_of_lt Nat.and_le_right (by decide)
 rw [hand]
 unfold it
 by_cases h:0≤i∧i<24
 ·obtain ⟨n,rfl⟩: ∃n:Nat,i=n:=⟨i.toNat,by omega⟩
  have hn:n<24:=by omega
  rw [decide_eq_true h,if_pos h,Bool.not_true,ac,EJ hk n (by omega)]
  have e1:(n:Int)+1=((n+1:Nat):Int):=by simp
  rw [GI (by omega) (by omega),e1,e9 _ (by omega),e9 _ (by omega),gE _ (by omega),gE _ (by omega)]
  rw [Int.toNat_natCast,Int.toNat_natCast,Nat.min_eq_left (show n+1≤32 by omega),Nat.min_eq_left (show n≤32 by omega),uA,kq]
  have hb:2^min n 24-1<4294967296:=by
   have:2^min n 24≤2^24:=Nat.pow_le_pow_right (by decide) (by omega)
   have h24:(2:Nat)^24=16777216:=by decide
   omega
  have hq:(m&&&M24)/2^(n+1)*2^n≤m&&&M24:=by
   have h1:(m&&&M24)/2^(n+1)*2^(n+1)≤m&&&M24:=Nat.div_mul_le_self _ _
   have h2:2^n≤2^(n+1):=Nat.pow_le_pow_right (by decide) (by omega)
   exact Nat.le_trans (Nat.mul_le_mul_left _ h2) h1
  have ec:((((m&&&M24)/2^(n+1):Nat):Int))*((2^n:Nat):Int)=(((m&&&M24)/2^(n+1)*2^n:Nat):Int):=by simp
  rw [ec,jg _ (by omega),hU (by omega) hb]
  have hlow:eD m n<4294967296:=by have:eD m n≤m&&&M24:=Nat.and_le_left;omega
  show ret (aN .or .u32 ((eD m n:Nat):Int) _)=_
  rw [oJ hlow (by omega)]
 ·rw [decide_eq_false h,if_neg h];rfl
end Go.Proofs.YtapmagaejigpnaaGreatDoor
namespace Go.Proofs.YtapmagaejigpnaaGreatDoor
open Go PI
set_option linter.unusedVariables false
set_option linter.unusedSimpArgs false
set_option maxRecDepth 20000
variable {S:Type} {k:Nat}
def aI (n:Int):Prop:= -9223372036854775808≤n∧n<9223372036854775808
def j9 (s:Int):Bool:=decide (s<16777216)
def bY (s i:Int):Bool:=decide (0≤i∧i<24)&&s.toNat.testBit i.toNat
def dO (s i:Int):Int:=if 0≤i∧i<24 then (((s.toNat&&&M24)|||2^i.toNat:Nat):Int) else ((s.toNat&&&M24:Nat):Int)
def dr (s i:Int):Int:=if 0≤i∧i<24 then ((gW (s.toNat&&&M24) (2^i.toNat):Nat):Int) else ((s.toNat&&&M24:Nat):Int)
def eU (s:Int):List Int:=ints (dH s.toNat)
def bG (s i b:Int):Int×Int:=if i<0∨b<0 then (0,2) else (((dL s.toNat i.toNat b.toNat).1:Int),((dL s.toNat i.toNat b.toNat).2:Int))
def iw (s i:Int):Int:=((it s.toNat i:Nat):Int)
theorem QQ (m:Nat):j9 (m:Int)=decide (m<16777216):=by
 unfold j9;rw [Bool.eq_iff_iff,decide_eq_true_iff,decide_eq_true_iff];omega
theorem D_ (hk:Fu k) {s:Int} (h:U32 s) (ret:Bool→Option S):kC k s ret=ret (j9 s):=by
 obtain ⟨m,hm,rfl⟩:=h.nat
 rw [Sr hk hm,QQ]
theorem lN (hk:Fu k) {s:Int} (h:U32 s) (i:Int) (ret:Bool→Option S):fh k s i ret=ret (bY s i):=by
 obtain ⟨m,hm,rfl⟩:=h.nat
 rw [Sp hk hm];rfl
theorem n9 (hk:Fu k) {s:Int} (h:U32 s) (i:Int) (ret:Int→Option S):fU k s i ret=ret (dO s i):=by
 obtain ⟨m,hm,rfl⟩:=h.nat
 rw [Ss hk hm];rfl
theorem n_ (hk:Fu k) {s:Int} (h:U32 s) (i:Int) (ret:Int→Option S):gG k s i ret=ret (dr s i):=by
 obtain ⟨m,hm,rfl⟩:=h.nat
 rw [Su hk hm];rfl
theorem BD {s:Int} (h:U32 s):ln s=eU s:=by
 obtain ⟨m,hm,rfl⟩:=h.nat
 have: ∀i:Nat,(BitVec.ofInt 32 (m:Int)).getLsbD i=m.testBit i:=by
  intro i;rw [BitVec.getLsbD,js hm]
 unfold ln eU ints dH
 simp only [this];rfl
theorem D8 (hk:Fu k) {s i b:Int} (h:U32 s) (hi:aI i) (hb:aI b) (ret:Int×Int→Option S):ig k s i b ret=ret (bG s i b):=by
 obtain ⟨m,hm,rfl⟩:=h.nat
 by_cases h1:i<0
 ·simp only [ig,sz,bW,bG];rw [if_pos h1,if_pos (.inl h1)]
 by_cases h2:b<0
 ·simp only [ig,sz,bW,bG];rw [if_neg h1,if_pos h2,if_pos (.inr h2)]
 obtain ⟨n,rfl⟩: ∃n:Nat,i=n:=⟨i.toNat,by omega⟩
 obtain ⟨c,rfl⟩: ∃n:Nat,b=n:=⟨b.toNat,by omega⟩
 have:=hi.2;have:=hb.2
 rw [Sq hk hm n c (by omega) (by omega),bG,if_neg (by omega)];rfl
theorem D7 (hk:Fu k) {s:Int} (h:U32 s) (i:Int) (ret:Int→Option S):kB k s i ret=ret (iw s i):=by
 obtain ⟨m,hm,rfl⟩:=h.nat
 rw [So hk hm];rfl
theorem tK (hk:Fu k) (ret:Int→Option S):ie k 0 ret=ret 0:=by
 simp only [ie,xL,am hk];rfl
theorem tL (hk:Fu k) (ret:Int→Option S): ∀n:Nat,n<24→ie k ((2^n:Nat):Int) ret=ret 1:=by
 simp only [ie,xL,am hk]
 intro n hn
 match n,hn with
 |0,_|1,_|2,_|3,_|4,_|5,_|6,_|7,_|8,_|9,_|10,_|11,_|12,_|13,_|14,_|15,_|16,_|17,_|18,_|19,_|20,_|21,_|22,_|23,_=>rfl
 |n+24,h=>omega
theorem sJ (i:Int):dO 0 i=if 0≤i∧i<24 then ((2^i.toNat:Nat):Int) else 0:=by
 unfold dO
 split
 ·simp
 ·rfl
theorem Rm (hk:Fu k) (i:Int) (ret:Bool→Option S):pK k i ret=ret (decide (0≤i∧i<24)):=by
 simp only [pK,E2,am hk,n9 hk (s:=0) ⟨by omega,by omega⟩,sJ]
 split
 ·next h=>rw [tL hk _ _ (by omega),decide_eq_true h];rfl
 ·next h=>rw [tK hk,decide_eq_false h];rfl
theorem Rn (hk:Fu k) (i:Int) (ret:Bool→Option S):pQ k i ret=ret (decide (0≤i∧i<24)):=by
 simp only [pQ,Fg,am hk,n9 hk (s:=0) ⟨by omega,by omega⟩,sJ]
 split
 ·next h=>rw [tL hk _ _ (by omega),decide_eq_true h];rfl
 ·next h=>rw [tK hk,decide_eq_false h];rfl
theorem U32.of {n:Nat} (h:n<4294967296):U32 (n:Int):=⟨by omega,by omega⟩
theorem Gy {s i:Int}:0≤dO s i∧dO s i<16777216:=by
 have h1:s.toNat&&&M24<16777216:=Nat.lt_of_le_of_lt Nat.and_le_right (by decide)
 unfold dO
 split
 ·next h=>
  have hp:2^i.toNat<2^24:=Nat.pow_lt_pow_right (by decide) (by omega)
  have:=Nat.or_lt_two_pow (n:=24) h1 hp
  have h24:(2:Nat)^24=16777216:=by decide
  omega
 ·omega
theorem GA {s i:Int}:0≤dr s i∧dr s i<16777216:=by
 have h1:s.toNat&&&M24<16777216:=Nat.lt_of_le_of_lt Nat.and_le_right (by decide)
 unfold dr
 split
 ·have:=vC (n:=24) (b:=2^i.toNat) h1
  have h24:(2:Nat)^24=16777216:=by decide
  omega
 ·omega
theorem Ko (m:Nat) (i:Int):it m i<16777216:=by
 have h1:m&&&M24<16777216:=Nat.lt_of_le_of_lt Nat.and_le_right (by decide)
 unfold it
 split
 ·rw [AP]
  intro j hj
  rw [Nat.testBit_or,tA,Nat.testBit_mul_two_pow,Nat.testBit_div_two_pow,Nat.testBit_and,hX] at hj
  simp only [Bool.or_eq_true,Bool.and_eq_true,decide_eq_true_eq] at hj
  omega
 ·exact h1
deriving instance DecidableEq for Cl
theorem Cl.ext' {a b:Cl} (h1:a.pos=b.pos) (h2:a.neg=b.neg):a=b:=by cases a;cases b;cases h1;cases h2;rfl
theorem mD (a b:Cl):((a.pos==b.pos)&&((a.neg==b.neg)&&true))=decide (a=b):=by
 rw [Bool.eq_iff_iff]
 simp only [Bool.and_true,Bool.and_eq_true,beq_iff_eq,decide_eq_true_eq]
 exact ⟨fun h=>Cl.ext' h.1 h.2,fun h=>h▸⟨rfl,rfl⟩⟩
def aV (c:Cl):Prop:=U32 c.pos∧U32 c.neg
def aj (f:List Cl):Prop:= ∀c∈f,aV c
def d7 (c:Cl):Bool:=j9 c.pos&&j9 c.neg
def RC (c:Cl):Prop:=(0≤c.pos∧c.pos<16777216)∧(0≤c.neg∧c.neg<16777216)
theorem RC.ok {c:Cl} (h:RC c):aV c:=⟨⟨h.1.1,by have:=h.1.2;omega⟩,⟨h.2.1,by have:=h.2.2;omega⟩⟩
theorem wx {c:Cl} (h:aV c):d7 c=true↔RC c:=by
 unfold d7 j9 RC
 simp only [Bool.and_eq_true,decide_eq_true_eq]
 have h1:=h.1.1;have h2:=h.2.1
 constructor
 ·rintro ⟨a,b⟩;exact ⟨⟨h1,a⟩,h2,b⟩
 ·rintro ⟨a,b⟩;exact ⟨a.2,b.2⟩
def dq (a b:Int):Int:=((a.toNat|||b.toNat:Nat):Int)
theorem rn {a b:Int} (ha:U32 a) (hb:U32 b):aN .or .u32 a b=dq a b:=by
 obtain ⟨m,hm,rfl⟩:=ha.nat;obtain ⟨n,hn,rfl⟩:=hb.nat
 rw [oJ hm hn];rfl
def ck (a b:Cl):Cl:=⟨dq a.pos b.pos,dq a.neg b.neg⟩
def bt (a b:Cl):Bool:=decide (ck a b=a)
def bF (c:Cl):Bool:= !decide (c.pos.toNat&&&c.neg.toNat=0)
theorem vJ {a b:Int} (ha:U32 a) (hb:U32 b):U32 (dq a b):=by
 obtain ⟨m,hm,rfl⟩:=ha.nat;obtain ⟨n,hn,rfl⟩:=hb.nat
 exact U32.of (Nat.or_lt_two_pow (n:=32) hm hn)
theorem BU {a b:Int} (ha:0≤a∧a<16777216) (hb:0≤b∧b<16777216):0≤dq a b∧dq a b<16777216:=by
 unfold dq
 have:=Nat.or_lt_two_pow (n:=24) (x:=a.toNat) (y:=b.toNat) (by omega) (by omega)
 omega
theorem rh {a b:Cl} (ha:aV a) (hb:aV b):aV (ck a b):=⟨vJ ha.1 hb.1,vJ ha.2 hb.2⟩
theorem OT {a b:Cl} (ha:RC a) (hb:RC b):RC (ck a b):=⟨BU ha.1 hb.1,BU ha.2 hb.2⟩
theorem Ec (hk:Fu k) {c:Cl} (h:aV c) (ret:Bool→Option S):mK k c ret=ret (d7 c):=by
 simp only [mK,E0,am hk,D_ hk h.1,D_ hk h.2,d7,d8]
 cases j9 c.pos<;>rfl
theorem wJ (hk:Fu k) {a b:Cl} (ha:aV a) (hb:aV b) (ret:Cl→Option S):ku k a b ret=ret (ck a b):=by
 simp only [ku,EZ,rn ha.1 hb.1,rn ha.2 hb.2];rfl
theorem Ri (hk:Fu k) {a b:Cl} (ha:aV a) (hb:aV b) (ret:Bool→Option S):pG k a b ret=ret (bt a b):=by
 simp only [pG,EU,am hk,wJ hk ha hb,mD];rfl
theorem Eb (hk:Fu k) {c:Cl} (h:aV c) (ret:Bool→Option S):mJ k c ret=ret (bF c):=by
 obtain ⟨p,n⟩:=c
 obtain ⟨m,hm,rfl⟩:=h.1.nat;obtain ⟨n,hn,rfl⟩:=h.2.nat
 simp only [mJ,EV,hU hm hn,bF,Int.toNat_natCast]
 congr 2
 rw [Bool.eq_iff_iff];simp only [beq_iff_eq,decide_eq_true_eq];omega
open Classical in
theorem Gx (s:Int) (x:Nat) (hx:x<24) (j:Nat):(dO s (x:Int)).toNat.testBit j=((s.toNat.testBit j&&decide (j<24))||decide (j=x)):=by
 unfold dO
 rw [if_pos (by omega),Int.toNat_natCast,Int.toNat_natCast,Nat.testBit_or,Nat.testBit_and,hX,Nat.testBit_two_pow,Bool.eq_iff_iff]
 simp only [Bool.or_eq_true,Bool.and_eq_true,decide_eq_true_eq]
 constructor<;>(rintro (h|h);exact .inl h;exact .inr h.symm)
def b7 (c:Cl) (i b:Int):Cl×Int:=
 if d7 c then
  if (bG c.pos i b).2=0 then if (bG c.neg i b).2=0 then (⟨(bG c.pos i b).1,(bG c.neg i b).1⟩,0) else (⟨0,0⟩,(bG c.neg i b).2)
  else (⟨0,0⟩,(bG c.pos i b).2)
 else (⟨0,0⟩,2)
theorem Rj (hk:Fu k) {c:Cl} {i b:Int} (h:aV c) (hi:aI i) (hb:aI b) (ret:Cl×Int→Option S):pJ k c i b ret=ret (b7 c i b):=by
 simp only [pJ,EY,am hk,Ec hk h,D8 hk h.1 hi hb,D8 hk h.2 hi hb,d8,b7,Bool.not_eq_true',beq_eq_false_iff_ne]
 cases d7 c<;>simp only [reduceIte,Bool.false_eq_true,Bool.true_eq_false]
 by_cases h1:(bG c.pos i b).2=0
 ·by_cases h2:(bG c.neg i b).2=0<;>simp [h1,h2]
 ·simp [h1]
end Go.Proofs.YtapmagaejigpnaaGreatDoor
namespace Go.Proofs.YtapmagaejigpnaaGreatDoor
open Go PI
set_option linter.unusedVariables false
set_option linter.unusedSimpArgs false
set_option maxRecDepth 20000
variable {S:Type} {k:Nat}
def eF (a b:Cl):Prop:=a.pos<b.pos∨(a.pos=b.pos∧a.neg<b.neg)
def ve (a b:Cl):Bool:=decide (a.pos<b.pos)||(a.pos==b.pos&&decide (a.neg<b.neg))
theorem lessB_iff {a b:Cl}:ve a b=true↔eF a b:=by unfold ve eF;simp
theorem AQ {a b c:Cl} (h:eF a b) (h':eF b c):eF a c:=by unfold eF at*;omega
theorem vk {a:Cl} (h:eF a a):False:=by unfold eF at h;omega
theorem OQ (a b:Cl):eF a b∨a=b∨eF b a:=by
 by_cases h:a=b
 ·exact .inr (.inl h)
 ·have: ¬(a.pos=b.pos∧a.neg=b.neg):=fun h'=>h (Cl.ext' h'.1 h'.2)
  unfold eF;omega
abbrev fM (l:List Cl):Prop:=l.Pairwise eF
theorem sn: ∀ {a b:List Cl},fM a→fM b→(∀c,c∈a↔c∈b)→a=b:=by
 intro a
 induction a with
 |nil=>
  intro b _ _ h
  cases b with
  |nil=>rfl
  |cons y b=>exact absurd ((h y).2 (by simp)) (by simp)
 |cons x a ih=>
  intro b ha hb h
  cases b with
  |nil=>exact absurd ((h x).1 (by simp)) (by simp)
  |cons y b=>
   have ha':=List.pairwise_cons.1 ha;have hb':=List.pairwise_cons.1 hb
   have hxy:x=y:=by
    rcases List.mem_cons.1 ((h x).1 (by simp)) with h1|h1
    ·exact h1
    ·rcases List.mem_cons.1 ((h y).2 (by simp)) with h2|h2
     ·exact h2.symm
     ·exact absurd (AQ (ha'.1 y h2) (hb'.1 x h1)) vk
   subst hxy
   congr 1
   refine ih ha'.2 hb'.2 fun c=>⟨fun hc=> ?_,fun hc=> ?_⟩
   ·rcases List.mem_cons.1 ((h c).1 (by simp [hc])) with rfl|h1
    ·exact absurd (ha'.1 _ hc) vk
    ·exact h1
   ·rcases List.mem_cons.1 ((h c).2 (by simp [hc])) with rfl|h1
    ·exact absurd (hb'.1 _ hc) vk
    ·exact h1
def dK (x:Cl):List Cl→List Cl
 |[]=>[x]
 |y::r=>if ve y x then y::dK x r else if y=x then y::r else x::y::r
theorem mem_insC {x c:Cl}: ∀ {l:List Cl},c∈dK x l↔c=x∨c∈l:=by
 intro l
 induction l with
 |nil=>simp [dK]
 |cons y r ih=>
  unfold dK
  split
  ·rw [List.mem_cons,ih,List.mem_cons];exact ⟨fun h=>by rcases h with h|h|h<;>simp [h],fun h=>by rcases h with h|h|h<;>simp [h]⟩
  ·split
   ·next h=>subst h;rw [List.mem_cons];exact ⟨fun h=> .inr h,fun h=>by rcases h with h|h;exact .inl h;exact h⟩
   ·rw [List.mem_cons]
theorem ME {x:Cl}: ∀ {l:List Cl},fM l→fM (dK x l):=by
 intro l
 induction l with
 |nil=>intro _;simp [dK]
 |cons y r ih=>
  intro h
  have h':=List.pairwise_cons.1 h
  unfold dK
  split
  ·next hl=>
   refine List.pairwise_cons.2 ⟨fun c hc=> ?_,ih h'.2⟩
   rcases mem_insC.1 hc with rfl|hc
   ·exact lessB_iff.1 hl
   ·exact h'.1 c hc
  ·next hl=>
   split
   ·exact h
   ·next hne=>
    have hxy:eF x y:=by
     rcases OQ y x with h1|h1|h1
     ·exact absurd (lessB_iff.2 h1) hl
     ·exact absurd h1 hne
     ·exact h1
    refine List.pairwise_cons.2 ⟨fun c hc=> ?_,h⟩
    rcases List.mem_cons.1 hc with rfl|hc
    ·exact hxy
    ·exact AQ hxy (h'.1 c hc)
theorem MD {x:Cl}: ∀ {l:List Cl},(dK x l).length≤l.length+1:=by
 intro l
 induction l with
 |nil=>simp [dK]
 |cons y r ih=>
  unfold dK
  split
  ·simp only [List.length_cons];omega
  ·split<;>simp
def bv (l:List Cl) (c:Cl):Bool:=l.all fun d=>decide (d=c)|| !bt c d
def gO (o l:List Cl):List Cl:=l.foldl (fun o c=>dK c o) o
def cD (l:List Cl):List Cl:=gO [] (l.filter (bv l))
theorem OW {c:Cl}: ∀ {l o:List Cl},c∈gO o l↔c∈l∨c∈o:=by
 intro l
 induction l with
 |nil=>intro o;simp [gO]
 |cons x l ih=>
  intro o
  show c∈gO (dK x o) l↔_
  rw [ih,mem_insC,List.mem_cons]
  constructor
  ·rintro (h|h|h)
   ·exact .inl (.inr h)
   ·exact .inl (.inl h)
   ·exact .inr h
  ·rintro ((h|h)|h)
   ·exact .inr (.inl h)
   ·exact .inl h
   ·exact .inr (.inr h)
theorem MC: ∀ {l o:List Cl},fM o→fM (gO o l):=by
 intro l
 induction l with
 |nil=>intro o h;exact h
 |cons x l ih=>intro o h;exact ih (ME h)
theorem MB: ∀ {l o:List Cl},(gO o l).length≤o.length+l.length:=by
 intro l
 induction l with
 |nil=>intro o;simp [gO]
 |cons x l ih=>
  intro o
  have h1:(gO (dK x o) l).length≤(dK x o).length+l.length:=ih
  have h2:= @MD x o
  show (gO (dK x o) l).length≤_
  rw [List.length_cons];omega
theorem ls (l:List Cl):fM (cD l):=MC List.Pairwise.nil
theorem mem_mins {l:List Cl} {c:Cl}:c∈cD l↔c∈l∧bv l c=true:=by
 rw [cD,OW,List.mem_filter];simp
theorem BG (l:List Cl):(cD l).length≤l.length:=by
 have h1:= @MB (l.filter (bv l)) []
 have h2:=List.length_filter_le (bv l) l
 simp only [List.length_nil] at h1
 unfold cD;omega
theorem O4 {l l':List Cl} (h: ∀c,c∈l↔c∈l') (c:Cl):bv l c=bv l' c:=by
 rw [Bool.eq_iff_iff];simp only [bv,List.all_eq_true]
 exact ⟨fun f d hd=>f d ((h d).2 hd),fun f d hd=>f d ((h d).1 hd)⟩
def aX (l:List Cl):List Cl×Int:=if l.all d7 then if (cD l).length>64 then ([],3) else (cD l,0) else ([],2)
theorem Ka {S:Type} {p:Prop} [Decidable p] (h:p) (f:Unit→Option S):Option.bind (bX p) f=f ():=gE p h f
theorem Ra (hk:Fu k) {d c:Cl} (hd:aV d) (hc:aV c) (ret:Bool→Option S):pI k d c ret=ret (!(decide (d=c)|| !bt c d)):=by
 simp only [pI,EX,mD,am hk,Ri hk hc hd,d8]
 have:decide (c=d)=decide (d=c):=by rw [Bool.eq_iff_iff];simp [eq_comm]
 rw [this]
 cases decide (d=c)<;>cases bt c d<;>rfl
end Go.Proofs.YtapmagaejigpnaaGreatDoor
namespace Go.Proofs.YtapmagaejigpnaaGreatDoor
open Go PI
set_option linter.unusedVariables false
set_option linter.unusedSimpArgs false
set_option maxRecDepth 20000
variable {S:Type} {k:Nat}
theorem NY (hk:Fu k) (ret:Int→Option S) {c:Cl} (hc:aV c) {l:List Cl} (hl:aj l) (hlen:l.length<2147483648):
  ∀ (r p:List Cl) (m:Nat),l=p++r→r.length<m→ ∃v:Int,decide (v≥0)= !bv r c∧lf k ret c l m (p.length:Int)=ret v:=by
 intro r
 induction r with
 |nil=>
  intro p m h hm
  obtain ⟨m,rfl,hm'⟩:=ao hm
  exact ⟨-1,rfl,by simp only [lf,pm,aM h,ac]⟩
 |cons x r ih=>
  intro p m h hm
  obtain ⟨m,rfl,hm'⟩:=ao hm
  obtain ⟨e1,e2,e3,e4⟩:=aJ h (by omega)
  have hx:aV x:=hl x (by rw [h];simp)
  obtain ⟨v,hv,hr⟩:=ih (p++[x]) m e4 hm'
  have e0:bv (x::r) c=((decide (x=c)|| !bt c x)&&bv r c):=by simp [bv]
  simp only [lf,pm,e1,ag,e2,Option.bind_some,am hk,Ra hk hx hc,e3,hr]
  cases hb:(decide (x=c)|| !bt c x) with
  |true=>exact ⟨v,by rw [e0,hb,Bool.true_and,hv],by rw [Bool.not_true,ac]⟩
  |false=>exact ⟨(p.length:Int),by rw [e0,hb,Bool.false_and];simp,by rw [Bool.not_false,ag]⟩
theorem RH (hk:Fu k) {c:Cl} (hc:aV c) {l:List Cl} (hl:aj l) (hlen:l.length<2147483648) (ret:Bool→Option S):pH k c l ret=ret (!bv l c):=by
 obtain ⟨v,hv,hr⟩:=NY hk (fun r1:Int=>ret (decide (r1≥0))) hc hl hlen l [] k rfl (by have:4294967296≤k:=hk;omega)
 simp only [pH,EW,am hk,ue,FO,ug,xR]
 exact hr.trans (by rw [hv])
theorem N4 (hk:Fu k) (ret:List Cl×Int→Option S) {l:List Cl} (hl:aj l) (hlen:l.length<2147483648):
  ∀ (r p:List Cl) (m:Nat) (q:List Cl),l=p++r→r.length<m→q.length≤p.length→
  jM k ret l m (p.length:Int) q=ret (if (q++r.filter (bv l)).length>64 then ([],3) else (sortCl (q++r.filter (bv l)),0)):=by
 intro r
 induction r with
 |nil=>
  intro p m q h hm hq
  obtain ⟨m,rfl,hm'⟩:=ao hm
  simp only [jM,oL,aM h,ac,bW,List.filter_nil,List.append_nil]
  by_cases h64:q.length>64
  ·rw [if_pos (by omega),if_pos h64]
  ·rw [if_neg (by omega),if_neg h64]
 |cons x r ih=>
  intro p m q h hm hq
  obtain ⟨m,rfl,hm'⟩:=ao hm
  obtain ⟨e1,e2,e3,e4⟩:=aJ h (by omega)
  have hx:aV x:=hl x (by rw [h];simp)
  have hpl:p.length<l.length:=by rw [h];simp
  simp only [jM,oL,e1,ag,e2,Option.bind_some,am hk,RH hk hx hl hlen,Bool.not_not]
  rw [e3]
  cases hn:bv l x with
  |true=>
   rw [ag,bM (by simp;omega),List.filter_cons_of_pos hn,ih (p++[x]) m (q++[x]) e4 hm' (by simp;omega)]
   simp
  |false=>
   rw [ac,List.filter_cons_of_neg (by rw [hn];decide)]
   exact ih (p++[x]) m q e4 hm' (by simp;omega)
theorem qB (a b:Cl):dl VV ET.C a b=decide (a=b):=by
 have e:dl VV ET.C a b=((a.pos==b.pos)&&((a.neg==b.neg)&&true)):=by
  obtain ⟨p,n⟩:=a;obtain ⟨p',n'⟩:=b
  show dl VV ET.C _ _=((p==p')&&((n==n')&&true))
  unfold dl
  simp [VV,cx,PV.eqvI]
 rw [e,mD]
theorem OX (l:List (Cl×Bool)) (x y:Cl):cP VV ET.C (d5 VV ET.C l x true) y=if x=y then some true else cP VV ET.C l y:=by
 induction l with
 |nil=>
  show (bif dl VV ET.C x y then some true else .none)=_
  rw [qB];by_cases h:x=y<;>simp [h,cP]
 |cons a r ih=>
  obtain ⟨z,b⟩:=a
  show cP VV ET.C (bif dl VV ET.C z x then (z,true)::r else (z,b)::d5 VV ET.C r x true) y=_
  rw [qB]
  by_cases h:z=x
  ·subst h
   rw [decide_eq_true rfl,cond_true]
   show (bif dl VV ET.C z y then some true else cP VV ET.C r y)=if z=y then some true else (bif dl VV ET.C z y then some b else cP VV ET.C r y)
   rw [qB];by_cases h':z=y<;>simp [h']
  ·rw [decide_eq_false h,cond_false]
   show (bif dl VV ET.C z y then some b else cP VV ET.C (d5 VV ET.C r x true) y)=if x=y then some true else (bif dl VV ET.C z y then some b else cP VV ET.C r y)
   rw [qB,ih]
   by_cases h':z=y
   ·have hxy: ¬x=y:=fun e=>h (h'.trans e.symm)
    simp [h',hxy]
   ·simp [h']
theorem Sj {l o:List Cl} (hn:o.Nodup) (h: ∀c,c∈o↔c∈l):sortCl (o.filter (bv o))=cD l∧(o.filter (bv o)).length=(cD l).length:=by
 have hp:(sortCl (o.filter (bv o))).Perm (o.filter (bv o)):=List.mergeSort_perm _ _
 have hs:(sortCl (o.filter (bv o))).Pairwise (fun a b=>hZ a b=true):=
  List.pairwise_mergeSort (le:=hZ) (fun a b c h1 h2=>by
   unfold hZ at*
   simp only [Bool.or_eq_true,Bool.and_eq_true,decide_eq_true_eq,beq_iff_eq] at*;omega) (fun a b=>by
   unfold hZ
   simp only [Bool.or_eq_true,Bool.and_eq_true,decide_eq_true_eq,beq_iff_eq];omega) _
 have hnd:(sortCl (o.filter (bv o))).Nodup:=hp.nodup_iff.2 (hn.filter _)
 have hsorted:fM (sortCl (o.filter (bv o))):=by
  refine (hs.and hnd).imp fun {a b} h=> ?_
  have h1:=h.1
  unfold hZ at h1
  simp only [Bool.or_eq_true,Bool.and_eq_true,decide_eq_true_eq,beq_iff_eq] at h1
  rcases h1 with h1|h1
  ·exact .inl h1
  ·refine .inr ⟨h1.1, ?_⟩
   have:a.neg≠b.neg:=fun e=>h.2 (Cl.ext' h1.1 e)
   omega
 have he:sortCl (o.filter (bv o))=cD l:=sn hsorted (ls l) fun c=>by
  rw [hp.mem_iff,List.mem_filter,mem_mins,h,O4 h]
 exact ⟨he,by rw [←he,hp.length_eq]⟩
theorem Ol (hk:Fu k) (ret:List Cl×Int→Option S) {l:List Cl} (hl:aj l) (hlen:l.length<2147483648):
  ∀ (r p:List Cl) (m:Nat) (q:List (Cl×Bool)) (o:List Cl),l=p++r→r.length<m→o.length≤p.length→o.Nodup→(∀c:Cl,(cP VV ET.C q c).getD false=decide (c∈o))→(∀c,c∈o↔c∈p)→
  kO k ret l m q o (p.length:Int)=ret (if r.all d7 then if (cD l).length>64 then ([],3) else (cD l,0) else ([],2)):=by
 intro r
 induction r with
 |nil=>
  intro p m q o h hm ho hnd hq hmem
  obtain ⟨m,rfl,hm'⟩:=ao hm
  have hp:l=p:=by rw [h,List.append_nil]
  subst hp
  have hol:aj o:=fun c hc=>hl c ((hmem c).1 hc)
  have hk':4294967296≤k:=hk
  simp only [kO,me,aM h,ac,List.all_nil,if_true]
  have:=N4 hk ret hol (by omega) o [] k [] rfl (by omega) (by simp)
  simp only [List.nil_append] at this
  refine Eq.trans this ?_
  have hsm:=Sj hnd hmem
  rw [hsm.1,hsm.2]
 |cons x r ih=>
  intro p m q o h hm ho hnd hq hmem
  obtain ⟨m,rfl,hm'⟩:=ao hm
  obtain ⟨e1,e2,e3,e4⟩:=aJ h (by omega)
  have hx:aV x:=hl x (by rw [h];simp)
  have hpl:p.length<l.length:=by rw [h];simp
  simp only [kO,me,e1,ag,e2,Option.bind_some,am hk,Ec hk hx]
  rw [hq,e3]
  by_cases hr:d7 x=true
  ·have:(x::r).all d7=r.all d7:=by rw [List.all_cons,hr,Bool.true_and]
   rw [hr,Bool.not_true,ac,this]
   by_cases hxo:x∈o
   ·rw [decide_eq_true hxo,Bool.not_true,ac]
    exact ih (p++[x]) m q o e4 hm' (by simp;omega) hnd hq fun c=>by
     rw [hmem c,List.mem_append,List.mem_singleton]
     exact ⟨.inl,fun h'=>by rcases h' with h'|rfl;exact h';exact (hmem _).1 hxo⟩
   ·rw [decide_eq_false hxo,Bool.not_false,ag,bM (by simp;omega)]
    refine ih (p++[x]) m _ (o++[x]) e4 hm' (by simp;omega) (List.nodup_append.2 ⟨hnd,by simp,fun a ha b hb=>by simp at hb;subst hb;rintro rfl;exact hxo ha⟩) (fun c=> ?_) fun c=> ?_
    ·rw [OX]
     by_cases hc:x=c
     ·subst hc;simp
     ·rw [if_neg hc,hq,Bool.eq_iff_iff];simp [Ne.symm hc]
    ·rw [List.mem_append,hmem,List.mem_append]
  ·rw [Bool.not_eq_true] at hr
   have:(x::r).all d7=false:=by rw [List.all_cons,hr,Bool.false_and]
   rw [hr,Bool.not_false,ag,this,if_neg (by decide)]
theorem g4 (hk:Fu k) {l:List Cl} (hl:aj l) (hlen:l.length<2147483648) (ret:List Cl×Int→Option S):eR k l ret=ret (aX l):=by
 simp only [eR,xd]
 exact Ol hk ret hl hlen l [] k [] [] rfl (by have:4294967296≤k:=hk;omega) (by simp) List.nodup_nil (fun c=>by simp [cP]) (fun c=>Iff.rfl)
theorem Ny (hk:Fu k) (ret:Bool→Option S) {a b:List Cl} (hlen:a.length<4294967296):
  ∀ (r s p q:List Cl) (m:Nat),a=p++r→b=q++s→p.length=q.length→r.length=s.length→r.length<m→ld k ret a b m (p.length:Int)=ret (decide (r=s)):=by
 intro r
 induction r with
 |nil=>
  intro s p q m h h' hpq hrs hm
  obtain ⟨m,rfl,hm'⟩:=ao hm
  cases s with
  |nil=>simp only [ld,pk,aM h,ac];rfl
  |cons=>cases hrs
 |cons x r ih=>
  intro s p q m h h' hpq hrs hm
  obtain ⟨m,rfl,hm'⟩:=ao hm
  cases s with
  |nil=>cases hrs
  |cons y s=>
   obtain ⟨e1,e2,e3,e4⟩:=aJ h (by omega)
   have e2':ar b (p.length:Int)=some y:=by rw [h',hpq];exact Mm q s y
   simp only [ld,pk,e1,ag,e2,e2',Option.bind_some,mD,e3]
   rw [ih s (p++[x]) (q++[y]) m e4 (by rw [h'];simp) (by simp [hpq]) (by simpa using hrs) hm']
   by_cases hxy:x=y
   ·subst hxy;rw [decide_eq_true rfl,Bool.not_true,ac];simp
   ·rw [decide_eq_false hxy,Bool.not_false,ag];simp [hxy]
theorem Q8 (hk:Fu k) {a b:List Cl} (hlen:a.length<4294967296) (ret:Bool→Option S):qb k a b ret=ret (decide (a=b)):=by
 simp only [qb,xQ]
 by_cases h:a.length=b.length
 ·have e:((a.length:Int)==(b.length:Int))=true:=by simp [h]
  rw [e,Bool.not_true,ac]
  exact Ny hk ret hlen a b [] [] k rfl rfl rfl h (by have:4294967296≤k:=hk;omega)
 ·have e:((a.length:Int)==(b.length:Int))=false:=by rw [beq_eq_false_iff_ne];omega
  rw [e,Bool.not_false,ag,decide_eq_false]
  rintro rfl;exact h rfl
theorem Ov (l:List Cl):(aX l).1.length≤64:=by
 unfold aX;split
 ·split
  ·simp
  ·next h=>show (cD l).length≤64;omega
 ·simp
def be (f:List Cl):Bool:=decide (aX f=(f,0))
theorem lO (hk:Fu k) {f:List Cl} (hf:aj f) (hlen:f.length<2147483648) (ret:Bool→Option S):fg k f ret=ret (be f):=by
 have:=Ov f
 simp only [fg,Fs,am hk,g4 hk hf hlen,Q8 hk (show (aX f).1.length<4294967296 by omega),d8,be,beq_iff_eq]
 by_cases h:(aX f).2=0
 ·rw [if_pos h];congr 1;rw [Bool.eq_iff_iff];simp [Prod.ext_iff,h]
 ·rw [if_neg h,decide_eq_false];intro e;rw [e] at h;exact h rfl
end Go.Proofs.YtapmagaejigpnaaGreatDoor
namespace Go.Proofs.YtapmagaejigpnaaGreatDoor
open Go PI
set_option linter.unusedVariables false
set_option linter.unusedSimpArgs false
set_option maxRecDepth 20000
variable {S:Type} {k:Nat}
def RF (f:List Cl):Prop:=aX f=(f,0)∧aj f
theorem gm {f:List Cl} (h:aj f):be f=true↔RF f:=by unfold be RF;simp [h]
theorem RF.right {f:List Cl} (h:RF f):be f=true:=by unfold be;simp [h.1]
theorem gU {l o:List Cl} (h:aX l=(o,0)):o=cD l∧l.all d7=true∧o.length≤64:=by
 unfold aX at h
 split at h
 ·next ha=>
  split at h
  ·cases h
  ·next hl=>cases h;exact ⟨rfl,ha,by omega⟩
 ·cases h
theorem RF.len {f:List Cl} (h:RF f):f.length≤64:=(gU h.1).2.2
theorem RF.rc {f:List Cl} (h:RF f) {c:Cl} (hc:c∈f):RC c:=(wx (h.2 c hc)).1 (List.all_eq_true.1 (gU h.1).2.1 c hc)
theorem O0 (l:List Cl):cD (cD l)=cD l:=sn (ls _) (ls _) fun c=>by
 rw [mem_mins]
 constructor
 ·exact fun h=>h.1
 ·intro h
  refine ⟨h, ?_⟩
  have:=(mem_mins.1 h).2
  simp only [bv,List.all_eq_true] at this ⊢
  exact fun d hd=>this d (mem_mins.1 hd).1
theorem lk {l:List Cl} (hl:aj l) (h:(aX l).2=0):RF (aX l).1:=by
 have h':aX l=((aX l).1,0):=Prod.ext rfl h
 obtain ⟨h1,h2,h3⟩:=gU h'
 have hok:aj (aX l).1:=fun c hc=>hl c ((mem_mins.1 (h1▸hc)).1)
 refine ⟨?_,hok⟩
 have ha:(aX l).1.all d7=true:=List.all_eq_true.2 fun c hc=>List.all_eq_true.1 h2 c (mem_mins.1 (h1▸hc)).1
 rw [h1] at ha ⊢ h3
 unfold aX
 rw [if_pos ha,O0,if_neg (by omega)]
theorem gk:RF []:=⟨rfl,fun c hc=>by cases hc⟩
theorem df {c:Cl} (h:RC c):RF [c]:=by
 have hok:aj [c]:=fun d hd=>by simp at hd;subst hd;exact h.ok
 refine ⟨?_,hok⟩
 have hm:cD [c]=[c]:=sn (ls _) (by simp) fun d=>by
  rw [mem_mins];simp only [List.mem_singleton]
  constructor
  ·exact fun h=>h.1
  ·rintro rfl;simp [bv]
 unfold aX
 rw [hm,if_pos (by simp [(wx h.ok).2 h]),if_neg (by simp)]
theorem gZ:RC ⟨0,0⟩:=⟨⟨by decide,by decide⟩,by decide,by decide⟩
theorem fG {f g:List Cl} (hf:aj f) (hg:aj g):aj (f++g):=fun c hc=>by
 rcases List.mem_append.1 hc with h|h
 ·exact hf c h
 ·exact hg c h
theorem Oj (hk:Fu k) (ret:Int→Option S) {l:List (List Cl)} (hl: ∀f∈l,aj f∧f.length<2147483648) (hlen:l.length<4294967296):
  ∀ (r p:List (List Cl)) (m:Nat),l=p++r→r.length<m→kZ k ret l m (p.length:Int)=ret (if r.all be then 0 else 2):=by
 intro r
 induction r with
 |nil=>
  intro p m h hm
  obtain ⟨m,rfl,hm'⟩:=ao hm
  simp only [kZ,o_,aM h,ac];rfl
 |cons x r ih=>
  intro p m h hm
  obtain ⟨m,rfl,hm'⟩:=ao hm
  obtain ⟨e1,e2,e3,e4⟩:=aJ h (by omega)
  have hx:=hl x (by rw [h];simp)
  simp only [kZ,o_,e1,ag,e2,Option.bind_some,am hk,lO hk hx.1 hx.2,e3,ih (p++[x]) m e4 hm']
  by_cases hr:be x=true
  ·have:(x::r).all be=r.all be:=by rw [List.all_cons,hr,Bool.true_and]
   rw [hr,Bool.not_true,ac,this]
  ·rw [Bool.not_eq_true] at hr
   have:(x::r).all be=false:=by rw [List.all_cons,hr,Bool.false_and]
   rw [hr,Bool.not_false,ag,this,if_neg (by decide)]
theorem wM (hk:Fu k) {l:List (List Cl)} (hl: ∀f∈l,aj f∧f.length<2147483648) (hlen:l.length<4294967296) (ret:Int→Option S):kA k l ret=ret (if l.all be then 0 else 2):=by
 simp only [kA,xF]
 exact Oj hk ret hl hlen l [] k rfl (by have:4294967296≤k:=hk;omega)
def cM (f g:List Cl):List Cl×Int:=aX (f++g)
def meets (f g:List Cl):List Cl:=f.flatMap fun a=>g.map (ck a)
def cY (f g:List Cl):List Cl×Int:=aX (meets f g)
theorem ri {f g:List Cl} (hf:aj f) (hg:aj g):aj (meets f g):=fun c hc=>by
 obtain ⟨a,ha,hc⟩:=List.mem_flatMap.1 hc
 obtain ⟨b,hb,rfl⟩:=List.mem_map.1 hc
 exact rh (hf a ha) (hg b hb)
theorem lr {f g:List Cl} (hf:aj f) (hg:aj g) (h:(cY f g).2=0):RF (cY f g).1:=lk (ri hf hg) h
theorem uU {f g:List Cl} (hf:aj f) (hg:aj g) (h:(cM f g).2=0):RF (cM f g).1:=lk (fG hf hg) h
theorem sg (hk:Fu k) {f g:List Cl} (hf:aj f) (hg:aj g) (h1:f.length<1073741824) (h2:g.length<1073741824) (ret:List Cl×Int→Option S):jB k f g ret=ret (cM f g):=by
 simp only [jB,Ft,am hk,List.nil_append]
 rw [bM (by simp;omega),bM (by omega),g4 hk (fG hf hg) (by rw [List.length_append];omega)]
 rfl
theorem N_ (hk:Fu k) (ret:List Cl×Int→Option S) (rec0:Int→List Cl→Option S) {x:Cl} (hx:aV x) {g f:List Cl} {v:Int} (hg:aj g) (hlen:g.length<65536):
  ∀ (r p:List Cl) (m:Nat) (o:List Cl),g=p++r→r.length<m→o.length+r.length<1099511627776→jN k ret rec0 x g f v m (p.length:Int) o=rec0 (IntKind.wrap .i64 (v+1)) (o++r.map (ck x)):=by
 intro r
 induction r with
 |nil=>
  intro p m o h hm ho
  obtain ⟨m,rfl,hm'⟩:=ao hm
  simp only [jN,o8,aM h,ac,List.map_nil,List.append_nil]
 |cons y r ih=>
  intro p m o h hm ho
  obtain ⟨m,rfl,hm'⟩:=ao hm
  obtain ⟨e1,e2,e3,e4⟩:=aJ h (by omega)
  have hy:aV y:=hg y (by rw [h];simp)
  simp only [List.length_cons] at ho
  simp only [jN,o8,e1,ag,e2,Option.bind_some,am hk,wJ hk hx hy,e3]
  rw [bM (by simp;omega),ih (p++[y]) m (o++[ck x y]) e4 hm' (by simp;omega)]
  simp
theorem N9 (hk:Fu k) (ret:List Cl×Int→Option S) {g f:List Cl} (hf:aj f) (hg:aj g) (hlf:f.length<32768) (hlg:g.length<32768):
  ∀ (r p:List Cl) (m:Nat) (o:List Cl),f=p++r→r.length<m→aj o→o.length+r.length*g.length<1073741825→iM k ret g f m (p.length:Int) o=ret (aX (o++meets r g)):=by
 intro r
 induction r with
 |nil=>
  intro p m o h hm hok ho
  obtain ⟨m,rfl,hm'⟩:=ao hm
  simp only [iM,mg,aM h,ac,am hk]
  rw [g4 hk hok (by omega)]
  simp [meets]
 |cons x r ih=>
  intro p m o h hm hok ho
  obtain ⟨m,rfl,hm'⟩:=ao hm
  obtain ⟨e1,e2,e3,e4⟩:=aJ h (by omega)
  have hx:aV x:=hf x (by rw [h];simp)
  have hmul:(x::r).length*g.length=r.length*g.length+g.length:=by rw [List.length_cons,Nat.succ_mul]
  rw [hmul] at ho
  have hk':4294967296≤k:=hk
  simp only [iM,mg,e1,ag,e2,Option.bind_some]
  have:=N_ hk ret (iM k ret g f m) (f:=f) (v:=(p.length:Int)) hx hg (by omega) g [] k o rfl (by omega) (by omega)
  simp only [List.length_nil] at this
  rw [show (0:Int)=((0:Nat):Int) from rfl,this,e3,ih (p++[x]) m _ e4 hm' (fG hok fun c hc=>by
   obtain ⟨b,hb,rfl⟩:=List.mem_map.1 hc
   exact rh hx (hg b hb)) (by rw [List.length_append,List.length_map];omega)]
  simp [meets]
theorem oe (hk:Fu k) {f g:List Cl} (hf:aj f) (hg:aj g) (h1:f.length<32768) (h2:g.length<32768) (ret:List Cl×Int→Option S):gF k f g ret=ret (cY f g):=by
 simp only [gF,xD]
 have hb:f.length*g.length<1073741824:=Nat.lt_of_le_of_lt (Nat.mul_le_mul (Nat.le_of_lt_succ h1) (Nat.le_of_lt_succ h2)) (by decide)
 have:=N9 hk ret hf hg h1 h2 f [] k [] rfl (by have:4294967296≤k:=hk;omega) (fun c hc=>by cases hc) (by simp;omega)
 simpa [cY] using this
theorem RF.lt {f:List Cl} (h:RF f):f.length<2147483648:=by have:=h.len;omega
end Go.Proofs.YtapmagaejigpnaaGreatDoor
namespace Go.Proofs.YtapmagaejigpnaaGreatDoor
open Go PI
set_option linter.unusedVariables false
set_option linter.unusedSimpArgs false
set_option maxRecDepth 20000
variable {S:Type} {k:Nat}
theorem u0:U32 0:=⟨by decide,by decide⟩
def nl (i:Int):Cl:=⟨0,dO 0 i⟩
def pl (i:Int):Cl:=⟨dO 0 i,0⟩
theorem BL (i:Int):RC (nl i):=⟨⟨by show (0:Int)≤0;decide,by show (0:Int)<16777216;decide⟩,Gy⟩
theorem BX (i:Int):RC (pl i):=⟨Gy,⟨by show (0:Int)≤0;decide,by show (0:Int)<16777216;decide⟩⟩
def lv (c:Cl):List Cl:=(eU c.pos).map nl++(eU c.neg).map pl
def iX (c:Cl):List Cl×Int:=aX (lv c)
theorem rf (s:Int):(eU s).length≤24:=by unfold eU;rw [MH];exact JU _
theorem vH {c d:Cl} (h:d∈lv c):RC d:=by
 rcases List.mem_append.1 h with h|h
 ·obtain ⟨i,_,rfl⟩:=List.mem_map.1 h;exact BL i
 ·obtain ⟨i,_,rfl⟩:=List.mem_map.1 h;exact BX i
theorem PM (c:Cl):(lv c).length≤48:=by
 have h1:=rf c.pos;have h2:=rf c.neg
 unfold lv;rw [List.length_append,List.length_map,List.length_map];omega
theorem nr {l:List Cl} (h: ∀c∈l,RC c) (hl:l.length≤64):(aX l).2=0:=by
 have:=BG l
 unfold aX
 rw [if_pos (List.all_eq_true.2 fun c hc=>(wx (h c hc).ok).2 (h c hc)),if_neg (by omega)]
theorem vI (c:Cl):(iX c).2=0:=nr (fun d hd=>vH hd) (by have:=PM c;omega)
theorem nN (c:Cl):RF (iX c).1:=lk (fun d hd=>(vH hd).ok) (vI c)
theorem Od (hk:Fu k) (ret:List Cl×Int→Option S) {l:List Int} (hlen:l.length≤64):
  ∀ (r p:List Int) (m:Nat) (o:List Cl),l=p++r→r.length<m→aj o→o.length+r.length<1073741824→jO k ret l m (p.length:Int) o=ret (aX (o++r.map pl)):=by
 intro r
 induction r with
 |nil=>
  intro p m o h hm hok ho
  obtain ⟨m,rfl,hm'⟩:=ao hm
  simp only [List.length_nil] at ho
  simp only [jO,o9,aM h,ac,am hk,g4 hk hok (show o.length<2147483648 by omega),List.map_nil,List.append_nil]
 |cons x r ih=>
  intro p m o h hm hok ho
  obtain ⟨m,rfl,hm'⟩:=ao hm
  obtain ⟨e1,e2,e3,e4⟩:=aJ h (by omega)
  simp only [List.length_cons] at ho
  simp only [jO,o9,e1,ag,e2,Option.bind_some,am hk,n9 hk u0,e3]
  rw [bM (by simp;omega),ih (p++[x]) m _ e4 hm' (fG hok fun c hc=>by simp at hc;subst hc;exact (BX x).ok) (by simp;omega)]
  simp [pl]
theorem Oc (hk:Fu k) (ret:List Cl×Int→Option S) {c:Cl} (hc:aV c) {l:List Int} (hlen:l.length≤64):
  ∀ (r p:List Int) (m:Nat) (o:List Cl),l=p++r→r.length<m→aj o→o.length+r.length<1000000→kY k ret c l m (p.length:Int) o=ret (aX (o++r.map nl++(eU c.neg).map pl)):=by
 intro r
 induction r with
 |nil=>
  intro p m o h hm hok ho
  obtain ⟨m,rfl,hm'⟩:=ao hm
  simp only [List.length_nil] at ho
  have hl:=rf c.neg
  have hk':4294967296≤k:=hk
  simp only [kY,mh,aM h,ac,nQ,BD hc.2,List.map_nil,List.append_nil]
  exact Od hk ret (by omega) (eU c.neg) [] k o rfl (by omega) hok (by omega)
 |cons x r ih=>
  intro p m o h hm hok ho
  obtain ⟨m,rfl,hm'⟩:=ao hm
  obtain ⟨e1,e2,e3,e4⟩:=aJ h (by omega)
  simp only [List.length_cons] at ho
  simp only [kY,mh,e1,ag,e2,Option.bind_some,am hk,n9 hk u0,e3]
  rw [bM (by simp;omega),ih (p++[x]) m _ e4 hm' (fG hok fun c hc=>by simp at hc;subst hc;exact (BL x).ok) (by simp;omega)]
  simp [nl]
theorem RL (hk:Fu k) {c:Cl} (hc:aV c) (ret:List Cl×Int→Option S):p5 k c ret=ret (iX c):=by
 have hl:=rf c.pos
 simp only [p5,xE,nQ,BD hc.1]
 have:=Oc hk ret hc (l:=eU c.pos) (by omega) (eU c.pos) [] k [] rfl (by have:4294967296≤k:=hk;omega) (fun c hc=>by cases hc) (by simp;omega)
 simpa [iX,lv] using this
def aL (step:List Cl→Cl→List Cl×Int):List Cl→List Cl→List Cl×Int
 |h,[]=>(h,0)
 |h,c::r=>if (step h c).2=0 then aL step (step h c).1 r else ([],(step h c).2)
def gc (h:List Cl) (c:Cl):List Cl×Int:=cY h (iX c).1
def aZ (f:List Cl):List Cl×Int:=aL gc [⟨0,0⟩] f
theorem zU {step:List Cl→Cl→List Cl×Int} (hs: ∀h c,RF h→(step h c).2=0→RF (step h c).1): ∀ {r h:List Cl},RF h→(aL step h r).2=0→RF (aL step h r).1:=by
 intro r
 induction r with
 |nil=>intro h hh _;exact hh
 |cons c r ih=>
  intro h hh he
  unfold aL at he ⊢
  split
  ·next h0=>rw [if_pos h0] at he;exact ih (hs h c hh h0) he
  ·next h0=>rw [if_neg h0] at he;exact absurd he h0
theorem vE (h:List Cl) (c:Cl) (hh:RF h) (h0:(gc h c).2=0):RF (gc h c).1:=lr hh.2 (nN c).2 h0
theorem gf {f:List Cl} (h:(aZ f).2=0):RF (aZ f).1:=zU vE (df gZ) h
theorem bP (n:Int):(n==0)=decide (n=0):=by rw [Bool.eq_iff_iff];simp
theorem RJ (hk:Fu k) {h:List Cl} {c:Cl} (hh:RF h) (hc:aV c) (ret:List Cl×Int→Option S):pZ k h c ret=ret (gc h c):=by
 have:=hh.len;have:=(nN c).len
 simp only [pZ,Fw,am hk,RL hk hc,vI,oe hk hh.2 (nN c).2 (show h.length<32768 by omega) (show (iX c).1.length<32768 by omega)]
 rfl
theorem NU (hk:Fu k) (ret:List Cl×Int→Option S) {l:List Cl} (hl:aj l) (hlen:l.length<2147483648):
  ∀ (r p:List Cl) (m:Nat) (h:List Cl),l=p++r→r.length<m→RF h→kW k ret l m h (p.length:Int)=ret (aL gc h r):=by
 intro r
 induction r with
 |nil=>
  intro p m h e hm hh
  obtain ⟨m,rfl,hm'⟩:=ao hm
  simp only [kW,oZ,aM e,ac];rfl
 |cons x r ih=>
  intro p m h e hm hh
  obtain ⟨m,rfl,hm'⟩:=ao hm
  obtain ⟨e1,e2,e3,e4⟩:=aJ e (by omega)
  have hx:aV x:=hl x (by rw [e];simp)
  simp only [kW,oZ,e1,ag,e2,Option.bind_some,am hk,RJ hk hh hx,bP,e3]
  by_cases h0:(gc h x).2=0
  ·rw [decide_eq_true h0,Bool.not_true,ac,ih (p++[x]) m _ e4 hm' (vE h x hh h0),aL,if_pos h0]
  ·rw [decide_eq_false h0,Bool.not_false,ag,aL,if_neg h0]
theorem Eg (hk:Fu k) {f:List Cl} (hf:aj f) (hlen:f.length<2147483648) (ret:List Cl×Int→Option S):kz k f ret=ret (aZ f):=by
 simp only [kz,Fv,am hk,mS,xy,t6,xA]
 exact NU hk ret hf hlen f [] k _ rfl (by have:4294967296≤k:=hk;omega) (df gZ)
theorem Rr (hk:Fu k) {f:List Cl} (hf:aj f) (hlen:f.length<2147483648) (ret:List Cl×Int→Option S):pV k f ret=ret (if be f then aZ f else ([],2)):=by
 simp only [pV,Fp,am hk,wM hk (l:=[f]) (by simpa using ⟨hf,hlen⟩) (by simp),Eg hk hf hlen]
 have:[f].all be=be f:=by simp
 rw [this]
 by_cases h:be f=true
 ·rw [if_pos h,if_pos h];rfl
 ·rw [if_neg h,if_neg h];rfl
end Go.Proofs.YtapmagaejigpnaaGreatDoor
namespace Go.Proofs.YtapmagaejigpnaaGreatDoor
open Go PI
set_option linter.unusedVariables false
set_option linter.unusedSimpArgs false
set_option maxRecDepth 20000
variable {S:Type} {k:Nat}
def bN (i:Int) (c:Cl):Cl:=⟨dr c.pos i,dr c.neg i⟩
theorem dZ (i:Int) (c:Cl):RC (bN i c):=⟨GA,GA⟩
def de (i:Int) (r:List Cl) (c:Cl):List Cl×Int:=if bY c.pos i then cY [bN i c] r else ([bN i c],0)
def eH (i:Int) (r:List Cl) (c:Cl) (g:List Cl):List Cl×Int:=if bY c.neg i then if (aZ r).2=0 then cY g (aZ r).1 else ([],(aZ r).2) else (g,0)
def dc (i:Int) (r h:List Cl) (c:Cl):List Cl×Int:=
 if (de i r c).2=0 then if (eH i r c (de i r c).1).2=0 then cM h (eH i r c (de i r c).1).1 else ([],(eH i r c (de i r c).1).2) else ([],(de i r c).2)
def gH (i:Int):Bool:=decide (0≤i∧i<24)
def dB (f:List Cl) (i:Int) (r:List Cl):List Cl×Int:=if be f&&be r&&gH i then aL (dc i r) [] f else ([],2)
theorem vM {i:Int} {r:List Cl} {c:Cl} (hr:RF r) (h:(de i r c).2=0):RF (de i r c).1:=by
 unfold de at h ⊢
 split
 ·next hh=>rw [if_pos hh] at h;exact lr (df (dZ i c)).2 hr.2 h
 ·exact df (dZ i c)
theorem vN {i:Int} {r g:List Cl} {c:Cl} (hg:RF g) (h:(eH i r c g).2=0):RF (eH i r c g).1:=by
 unfold eH at h ⊢
 split
 ·next hh=>
  rw [if_pos hh] at h
  split
  ·next hn=>rw [if_pos hn] at h;exact lr hg.2 (gf hn).2 h
  ·next hn=>rw [if_neg hn] at h;exact absurd h hn
 ·exact hg
theorem rC {i:Int} {r:List Cl} (hr:RF r) (h:List Cl) (c:Cl) (hh:RF h) (h0:(dc i r h c).2=0):RF (dc i r h c).1:=by
 unfold dc at h0 ⊢
 split
 ·next ha=>
  rw [if_pos ha] at h0
  have hA:=vM hr ha
  split
  ·next hb=>rw [if_pos hb] at h0;exact uU hh.2 (vN hA hb).2 h0
  ·next hb=>rw [if_neg hb] at h0;exact absurd h0 hb
 ·next ha=>rw [if_neg ha] at h0;exact absurd h0 ha
theorem Rc (hk:Fu k) {i:Int} {r h:List Cl} {c:Cl} (hr:RF r) (hh:RF h) (hc:aV c) (ret:List Cl×Int→Option S):pX k h c i r ret=ret (dc i r h c):=by
 have l1:=hr.len;have l2:=hh.len
 have hg:=df (dZ i c)
 simp only [pX,Fr,am hk,n_ hk hc.1,n_ hk hc.2,lN hk hc.1,lN hk hc.2,oe hk hg.2 hr.2 (show [bN i c].length<32768 by simp) (show r.length<32768 by omega),Eg hk hr.2 hr.lt,bP,d8,decide_eq_true_eq,Bool.not_eq_true',decide_eq_false_iff_not]
 have e: ∀ (f:List Cl×Int→Option S),gF k [Cl.mk (dr c.pos i) (dr c.neg i)] r f=f (cY [bN i c] r):=fun f=>oe hk hg.2 hr.2 (by simp) (by omega) f
 simp only [e]
 unfold dc de eH
 by_cases hp:bY c.pos i=true
 ·simp only [hp,if_true]
  by_cases h1:(cY [bN i c] r).2=0
  ·have hA:RF (cY [bN i c] r).1:=lr hg.2 hr.2 h1
   have l3:=hA.len
   simp only [h1,not_true,if_false,if_true]
   by_cases hn:bY c.neg i=true
   ·simp only [hn,if_true]
    by_cases h2:(aZ r).2=0
    ·have hN:=gf h2
     have l4:=hN.len
     simp only [h2,not_true,if_false,if_true]
     rw [oe hk hA.2 hN.2 (by omega) (by omega)]
     by_cases h3:(cY (cY [bN i c] r).1 (aZ r).1).2=0
     ·have hB:=lr hA.2 hN.2 h3
      have l5:=hB.len
      simp only [h3,not_true,if_false,if_true]
      rw [sg hk hh.2 hB.2 (by omega) (by omega)]
     ·simp only [h3,not_false_eq_true,if_true,if_false]
    ·simp only [h2,not_false_eq_true,if_true,if_false]
   ·simp only [hn,Bool.false_eq_true,if_false,if_true]
    rw [sg hk hh.2 hA.2 (by omega) (by omega)]
  ·simp only [h1,not_false_eq_true,if_true,if_false]
 ·simp only [hp,Bool.false_eq_true,if_false,if_true]
  by_cases hn:bY c.neg i=true
  ·simp only [hn,if_true]
   by_cases h2:(aZ r).2=0
   ·have hN:=gf h2
    have l4:=hN.len
    simp only [h2,not_true,if_false,if_true]
    have e2: ∀ (f:List Cl×Int→Option S),gF k [Cl.mk (dr c.pos i) (dr c.neg i)] (aZ r).1 f=f (cY [bN i c] (aZ r).1):=fun f=>oe hk hg.2 hN.2 (by simp) (by omega) f
    rw [e2]
    by_cases h3:(cY [bN i c] (aZ r).1).2=0
    ·have hB:=lr hg.2 hN.2 h3
     have l5:=hB.len
     simp only [h3,not_true,if_false,if_true]
     rw [sg hk hh.2 hB.2 (by omega) (by omega)]
    ·simp only [h3,not_false_eq_true,if_true,if_false]
   ·simp only [h2,not_false_eq_true,if_true,if_false]
  ·simp only [hn,Bool.false_eq_true,if_false,if_true]
   have:=sg hk hh.2 hg.2 (by omega) (by simp) ret
   exact this
theorem NV (hk:Fu k) (ret:List Cl×Int→Option S) {i:Int} {q:List Cl} (hq:RF q) {l:List Cl} (hl:aj l) (hlen:l.length<2147483648):
  ∀ (r p:List Cl) (m:Nat) (h:List Cl),l=p++r→r.length<m→RF h→kV k ret i q l m h (p.length:Int)=ret (aL (dc i q) h r):=by
 intro r
 induction r with
 |nil=>
  intro p m h e hm hh
  obtain ⟨m,rfl,hm'⟩:=ao hm
  simp only [kV,oY,aM e,ac];rfl
 |cons x r ih=>
  intro p m h e hm hh
  obtain ⟨m,rfl,hm'⟩:=ao hm
  obtain ⟨e1,e2,e3,e4⟩:=aJ e (by omega)
  have hx:aV x:=hl x (by rw [e];simp)
  simp only [kV,oY,e1,ag,e2,Option.bind_some,am hk,Rc hk hq hh hx,bP,e3]
  by_cases h0:(dc i q h x).2=0
  ·rw [decide_eq_true h0,Bool.not_true,ac,ih (p++[x]) m _ e4 hm' (rC hq h x hh h0),aL,if_pos h0]
  ·rw [decide_eq_false h0,Bool.not_false,ag,aL,if_neg h0]
theorem Q7 (hk:Fu k) (i:Int) (ret:List Cl×Int→Option S):pU k i ret=ret (if gH i then ([⟨dO 0 i,0⟩],0) else ([],2)):=by
 simp only [pU,Fk,am hk,n9 hk u0]
 unfold gH
 by_cases h:0≤i∧i<24
 ·have:dO 0 i=((2^i.toNat:Nat):Int):=by rw [sJ,if_pos h]
  rw [this,tL hk _ _ (by omega),decide_eq_true h,if_pos rfl];exact ac _ _
 ·have:dO 0 i=0:=by rw [sJ,if_neg h]
  rw [this,tK hk,decide_eq_false h,if_neg (by decide)];exact ag _ _
theorem Rs (hk:Fu k) {f r:List Cl} {i:Int} (hf:aj f) (hr:aj r) (h1:f.length<2147483648) (h2:r.length<2147483648) (ret:List Cl×Int→Option S):pW k f i r ret=ret (dB f i r):=by
 simp only [pW,Fq,am hk,wM hk (l:=[f,r]) (by simpa using ⟨⟨hf,h1⟩,hr,h2⟩) (by simp),Q7 hk]
 have e:[f,r].all be=(be f&&be r):=by simp
 unfold dB
 by_cases ha:(be f&&be r)=true
 ·rw [e,if_pos ha,ha,Bool.true_and]
  rw [show ((0:Int)==0)=true from rfl,Bool.not_true,ac]
  cases hd:gH i with
  |true=>
   rw [if_pos rfl,if_pos rfl]
   rw [show ((0:Int)==0)=true from rfl,Bool.not_true,ac]
   simp only [jA,sx,tZ,xz]
   have hr':=(gm hr).1 (by simp only [Bool.and_eq_true] at ha;exact ha.2)
   exact NV hk ret hr' hf h1 f [] k [] rfl (by have:4294967296≤k:=hk;omega) gk
  |false=>
   have e1: ∀ (x y:List Cl×Int),(if false=true then x else y)=y:=fun x y=>if_neg (by decide)
   rw [e1,e1];exact ag _ _
 ·rw [Bool.not_eq_true] at ha
  have e1: ∀ (x y:List Cl×Int),(if false=true then x else y)=y:=fun x y=>if_neg (by decide)
  rw [e,ha,if_neg (by decide),Bool.false_and,e1];exact ag _ _
theorem OE {m n b:Nat}:(dL m n b).1<16777216:=by
 have h1:m&&&M24<16777216:=Nat.lt_of_le_of_lt Nat.and_le_right (by decide)
 have h2:eD m n≤m&&&M24:=Nat.and_le_left
 unfold dL
 split
 ·show eD m n<_;omega
 ·split
  ·show 0<_;omega
  ·split
   ·show 0<_;omega
   ·exact Nat.or_lt_two_pow (n:=24) (by have:(2:Nat)^24=16777216:=(by decide);omega) (by have:(2:Nat)^24=16777216:=(by decide);omega)
theorem AL (s i b:Int):0≤(bG s i b).1∧(bG s i b).1<16777216:=by
 unfold bG
 split
 ·exact ⟨by decide,by decide⟩
 ·have:= @OE s.toNat i.toNat b.toNat
  exact ⟨Int.natCast_nonneg _,by show (((dL s.toNat i.toNat b.toNat).1:Nat):Int)<_;omega⟩
theorem OA (c:Cl) (i b:Int):RC (b7 c i b).1:=by
 unfold b7
 split
 ·split
  ·split
   ·exact ⟨AL _ _ _,AL _ _ _⟩
   ·exact gZ
  ·exact gZ
 ·exact gZ
def cO (i b:Int) (h:List Cl) (c:Cl):List Cl×Int:=(h++[(b7 c i b).1],(b7 c i b).2)
def aP (f:List Cl) (i b:Int):List Cl×Int:=if be f then if (aL (cO i b) [] f).2=0 then aX (aL (cO i b) [] f).1 else ([],(aL (cO i b) [] f).2) else ([],2)
theorem qL {i b:Int}: ∀ {r h:List Cl},aj h→aj (aL (cO i b) h r).1∧(aL (cO i b) h r).1.length≤h.length+r.length:=by
 intro r
 induction r with
 |nil=>intro h hh;exact ⟨hh,by show h.length≤_;omega⟩
 |cons c r ih=>
  intro h hh
  unfold aL
  split
  ·have:=ih (h:=(cO i b h c).1) (fG hh fun d hd=>by simp at hd;subst hd;exact (OA c i b).ok)
   refine ⟨this.1,Nat.le_trans this.2 ?_⟩
   unfold cO;simp;omega
  ·exact ⟨fun d hd=>(by cases hd),by show 0≤_;omega⟩
theorem NT (hk:Fu k) (ret:List Cl×Int→Option S) {i b:Int} (hi:aI i) (hb:aI b) {l:List Cl} (hl:aj l) (hlen:l.length<2147483648):
  ∀ (r p:List Cl) (m:Nat) (h:List Cl),l=p++r→r.length<m→h.length+r.length<4294967296→kX k ret i b l m h (p.length:Int)=ret (aL (cO i b) h r):=by
 intro r
 induction r with
 |nil=>
  intro p m h e hm hh
  obtain ⟨m,rfl,hm'⟩:=ao hm
  simp only [kX,o0,aM e,ac];rfl
 |cons x r ih=>
  intro p m h e hm hh
  obtain ⟨m,rfl,hm'⟩:=ao hm
  obtain ⟨e1,e2,e3,e4⟩:=aJ e (by omega)
  have hx:aV x:=hl x (by rw [e];simp)
  simp only [List.length_cons] at hh
  simp only [kX,o0,e1,ag,e2,Option.bind_some,am hk,tY,Fo,Rj hk hx hi hb,bP,e3]
  rw [bM (by simp;omega)]
  show ab (!decide ((b7 x i b).2=0)) _ _=_
  by_cases h0:(b7 x i b).2=0
  ·rw [decide_eq_true h0,Bool.not_true,ac,ih (p++[x]) m _ e4 hm' (by simp;omega),aL,if_pos (show (cO i b h x).2=0 from h0)];rfl
  ·rw [decide_eq_false h0,Bool.not_false,ag,aL,if_neg (show ¬ (cO i b h x).2=0 from h0)];rfl
theorem oa (hk:Fu k) {f:List Cl} {i b:Int} (hf:aj f) (hlen:f.length<1073741824) (hi:aI i) (hb:aI b) (ret:List Cl×Int→Option S):ic k f i b ret=ret (aP f i b):=by
 have hlo:=qL (i:=i) (b:=b) (r:=f) (h:=[]) (fun d hd=>by cases hd)
 simp only [List.length_nil] at hlo
 have hfold: ∀ (g:List Cl×Int→Option S),pY k f [] i b g=g (aL (cO i b) [] f):=fun g=>by
  simp only [pY,xB]
  exact NT hk g hi hb hf (by omega) f [] k [] rfl (by have:4294967296≤k:=hk;omega) (by simp;omega)
 simp only [ic,Fl,am hk,wM hk (l:=[f]) (by simpa using ⟨hf,by omega⟩) (by simp),jA,sx,hfold,g4 hk hlo.1 (show _<2147483648 by omega)]
 have e:[f].all be=be f:=by simp
 unfold aP
 cases hr:be f with
 |true=>
  rw [e,hr,if_pos rfl,if_pos rfl]
  rw [show ((0:Int)==0)=true from rfl,Bool.not_true,ac,bP]
  by_cases h0:(aL (cO i b) [] f).2=0
  ·rw [decide_eq_true h0,if_pos h0];exact ac _ _
  ·rw [decide_eq_false h0,if_neg h0];exact ag _ _
 |false=>
  have e1: ∀ (x y:List Cl×Int),(if false=true then x else y)=y:=fun x y=>if_neg (by decide)
  rw [e,hr,if_neg (by decide),e1];exact ag _ _
theorem gV {f:List Cl} {i b:Int} (h:(aP f i b).2=0):RF (aP f i b).1:=by
 unfold aP at h ⊢
 split
 ·next hr=>
  rw [if_pos hr] at h
  split
  ·next h0=>
   rw [if_pos h0] at h
   exact lk (qL fun d hd=>by cases hd).1 h
  ·next h0=>rw [if_neg h0] at h;exact absurd h h0
 ·next hr=>rw [if_neg hr] at h;exact absurd h (by decide)
end Go.Proofs.YtapmagaejigpnaaGreatDoor
namespace Go.Proofs.YtapmagaejigpnaaGreatDoor
open Go PI
set_option linter.unusedVariables false
set_option linter.unusedSimpArgs false
set_option maxRecDepth 20000
variable {S:Type} {k:Nat}
def nO (s:Nat) (f:List Cl):Nat:=f.foldl (fun s c=>s|||(c.pos.toNat|||c.neg.toNat)) s
def fi (f:List Cl):Nat:=nO 0 f&&&M24
def dW (f:List Cl):Int:=((fi f:Nat):Int)
def kg (f:List Cl) (i:Nat):Bool:=f.any fun c=>c.pos.toNat.testBit i||c.neg.toNat.testBit i
theorem PN (i:Nat): ∀ {f:List Cl} {s:Nat},(nO s f).testBit i=(s.testBit i||kg f i):=by
 intro f
 induction f with
 |nil=>intro s;simp [nO,kg]
 |cons c f ih=>
  intro s
  show (nO (s|||(c.pos.toNat|||c.neg.toNat)) f).testBit i=_
  rw [ih,Nat.testBit_or,Nat.testBit_or,Bool.or_assoc];simp [kg]
theorem zh (f:List Cl) (i:Nat):(fi f).testBit i=(kg f i&&decide (i<24)):=by
 rw [fi,Nat.testBit_and,hX,PN,Nat.zero_testBit,Bool.false_or]
theorem zg (f:List Cl):fi f<16777216:=Nat.lt_of_le_of_lt Nat.and_le_right (by decide)
theorem NF (hk:Fu k) (ret:Int→Option S) {l:List Cl} (hl:aj l) (hlen:l.length<4294967296):
  ∀ (r p:List Cl) (m:Nat) (s:Nat),l=p++r→r.length<m→s<4294967296→kU k ret l m (s:Int) (p.length:Int)=ret (((nO s r&&&M24:Nat):Int)):=by
 intro r
 induction r with
 |nil=>
  intro p m s e hm hs
  obtain ⟨m,rfl,hm'⟩:=ao hm
  simp only [kU,oX,aM e,ac,am hk,n_ hk (U32.of hs)]
  unfold dr
  rw [if_neg (by omega)];rfl
 |cons x r ih=>
  intro p m s e hm hs
  obtain ⟨m,rfl,hm'⟩:=ao hm
  obtain ⟨e1,e2,e3,e4⟩:=aJ e (by omega)
  have hx:aV x:=hl x (by rw [e];simp)
  have ho:U32 (dq x.pos x.neg):=vJ hx.1 hx.2
  have hq:s|||(x.pos.toNat|||x.neg.toNat)<4294967296:=by
   have h1:=hx.1.1;have h2:=hx.1.2;have h3:=hx.2.1;have h4:=hx.2.2
   have h32:(2:Nat)^32=4294967296:=by decide
   exact Nat.or_lt_two_pow (n:=32) hs (Nat.or_lt_two_pow (n:=32) (by omega) (by omega))
  have es:dq (s:Int) (dq x.pos x.neg)=((s|||(x.pos.toNat|||x.neg.toNat):Nat):Int):=by simp [dq]
  simp only [kU,oX,e1,ag,e2,Option.bind_some,rn hx.1 hx.2,rn (U32.of hs) ho,e3,es]
  exact ih (p++[x]) m _ e4 hm' hq
theorem wK (hk:Fu k) {f:List Cl} (hf:aj f) (hlen:f.length<4294967296) (ret:Int→Option S):ky k f ret=ret (dW f):=by
 simp only [ky,xx]
 exact NF hk ret hf hlen f [] k 0 rfl (by have:4294967296≤k:=hk;omega) (by decide)
def eV (f:List Cl) (d:Int):Bool:=decide (∀i∈dH (fi f),(i:Int)<d)
theorem Er (hk:Fu k) {f:List Cl} {d:Int} (hf:aj f) (hlen:f.length<4294967296) (hd:0≤d) (hd':d<9223372036854775808) (ret:Bool→Option S):io k f d ret=ret (eV f d):=by
 simp only [io,F1,bW,am hk,wK hk hf hlen]
 by_cases h:d≥24
 ·rw [if_pos h];congr 1
  rw [eV,eq_comm,decide_eq_true_eq]
  intro i hi;have:=(mem_bitsN.1 hi).1;omega
 ·rw [if_neg h]
  obtain ⟨n,rfl⟩: ∃n:Nat,d=n:=⟨d.toNat,by omega⟩
  rw [e9 n (by omega),Ka (by omega),Int.toNat_natCast,Nat.min_eq_left (by omega)]
  congr 1
  rw [dW,uA,eV,Bool.eq_iff_iff]
  simp only [beq_iff_eq,decide_eq_true_eq]
  have hdiv:(fi f/2^n=0)↔fi f<2^n:=Nat.div_eq_zero_iff_lt (Nat.two_pow_pos n)
  constructor
  ·intro h0 i hi
   have h1:=mem_bitsN.1 hi
   apply Classical.byContradiction
   intro h2
   have:fi f<2^i:=Nat.lt_of_lt_of_le (hdiv.1 (by omega)) (Nat.pow_le_pow_right (by decide) (by omega))
   rw [Nat.testBit_lt_two_pow this] at h1;cases h1.2
  ·intro h0
   have:fi f<2^n:=by
    apply Nat.lt_pow_two_of_testBit
    intro j hj
    cases hb:(fi f).testBit j with
    |false=>rfl
    |true=>have:=h0 j (mem_bitsN.2 ⟨hY (zg f) hb,hb⟩);omega
   have:=hdiv.2 this
   omega
end Go.Proofs.YtapmagaejigpnaaGreatDoor
namespace Go.Proofs.YtapmagaejigpnaaGreatDoor
open Go PI
set_option linter.unusedVariables false
set_option linter.unusedSimpArgs false
set_option maxRecDepth 20000
variable {S:Type} {k:Nat}
def jt (c:Cl):Bool:= !bF c
def co (l:List Cl):List Cl:=l.filter jt
def cZ (f:List Cl):Bool:=be f&&f.all fun c=> !bF c
def RFa (f:List Cl):Prop:=RF f∧ ∀c∈f,bF c=false
theorem r_ {f:List Cl} (h:aj f):cZ f=true↔RFa f:=by
 unfold cZ RFa
 rw [Bool.and_eq_true,gm h,List.all_eq_true]
 simp
theorem RFa.right {f:List Cl} (h:RFa f):cZ f=true:=(r_ h.1.2).2 h
theorem mF {l:List Cl} {c:Cl} (h:c∈co l):c∈l∧bF c=false:=by
 have:=List.mem_filter.1 h
 refine ⟨this.1, ?_⟩
 have h2:=this.2
 unfold jt at h2
 simpa using h2
theorem tG {l:List Cl} (h:aj l):aj (co l):=fun c hc=>h c (mF hc).1
theorem AF {l:List Cl} (hl:aj l) (hc: ∀c∈l,bF c=false) (h:(aX l).2=0):RFa (aX l).1:=by
 refine ⟨lk hl h,fun c hcm=> ?_⟩
 have h':aX l=((aX l).1,0):=Prod.ext rfl h
 rw [(gU h').1] at hcm
 exact hc c (mem_mins.1 hcm).1
theorem ww:RFa []:=⟨gk,fun c hc=>by cases hc⟩
theorem DD {c:Cl} (h:RC c) (h':bF c=false):RFa [c]:=⟨df h,fun d hd=>by simp at hd;subst hd;exact h'⟩
theorem yL (l:List Cl):(co l).length≤l.length:=List.length_filter_le _ _
theorem NE (hk:Fu k) (ret:Int→Option S) {l:List Cl} (hl:aj l) (hlen:l.length<2147483648):
  ∀ (r p:List Cl) (m:Nat),l=p++r→r.length<m→ ∃v:Int,decide (v≥0)=r.any bF∧lg k ret l m (p.length:Int)=ret v:=by
 intro r
 induction r with
 |nil=>
  intro p m h hm
  obtain ⟨m,rfl,hm'⟩:=ao hm
  exact ⟨-1,rfl,by simp only [lg,pn,aM h,ac]⟩
 |cons x r ih=>
  intro p m h hm
  obtain ⟨m,rfl,hm'⟩:=ao hm
  obtain ⟨e1,e2,e3,e4⟩:=aJ h (by omega)
  have hx:aV x:=hl x (by rw [h];simp)
  obtain ⟨v,hv,hr⟩:=ih (p++[x]) m e4 hm'
  simp only [lg,pn,e1,ag,e2,Option.bind_some,am hk,Eb hk hx,e3,hr,List.any_cons]
  cases hb:bF x with
  |true=>exact ⟨(p.length:Int),by simp,by rw [ag]⟩
  |false=>exact ⟨v,by rw [hv];rfl,by rw [ac]⟩
theorem JF (f:List Cl):(!f.any bF)=f.all fun c=> !bF c:=by
 induction f with
 |nil=>rfl
 |cons c f ih=>rw [List.any_cons,List.all_cons,Bool.not_or,ih]
theorem wL (hk:Fu k) {f:List Cl} (hf:aj f) (hlen:f.length<2147483648) (ret:Bool→Option S):h_ k f ret=ret (cZ f):=by
 obtain ⟨v,hv,hr⟩:=NE hk (fun r1:Int=>(fun r2:Bool=>ret (!r2)) (decide (r1≥0))) hf hlen f [] k rfl (by have:4294967296≤k:=hk;omega)
 simp only [h_,Fe,am hk,lO hk hf hlen,uf,FP,uh,xS]
 unfold cZ
 cases be f with
 |true=>
  rw [ag,Bool.true_and,←JF]
  refine hr.trans ?_
  simp only [hv]
 |false=>rw [ac,Bool.false_and]
def eC (l:List Cl):List Cl×Int:=aX (co l)
def c_ (f:List Cl):List Cl×Int:=if be f then eC f else ([],2)
def dp (f:List Cl):List Cl×Int:=if be f then if (aZ f).2=0 then eC (aZ f).1 else ([],(aZ f).2) else ([],2)
theorem nq {l:List Cl} (hl:aj l) (h:(eC l).2=0):RFa (eC l).1:=AF (tG hl) (fun c hc=>(mF hc).2) h
theorem rl {f:List Cl} (h:(c_ f).2=0) (hf:aj f):RFa (c_ f).1:=by
 unfold c_ at h ⊢
 split
 ·next hr=>rw [if_pos hr] at h;exact nq hf h
 ·next hr=>rw [if_neg hr] at h;exact absurd h (by decide)
theorem rm {f:List Cl} (h:(dp f).2=0) (hf:aj f):RFa (dp f).1:=by
 unfold dp at h ⊢
 split
 ·next hr=>
  rw [if_pos hr] at h
  split
  ·next h0=>rw [if_pos h0] at h;exact nq (gf h0).2 h
  ·next h0=>rw [if_neg h0] at h;exact absurd h h0
 ·next hr=>rw [if_neg hr] at h;exact absurd h (by decide)
theorem Ee (hk:Fu k) {c:Cl} (hc:aV c) (ret:Cl×Bool→Option S):mQ k c ret=ret (c,jt c):=by
 simp only [mQ,Ff,am hk,Eb hk hc];rfl
theorem NZ (hk:Fu k) (ret:List Cl→Option S) {l:List Cl} (hl:aj l) (hlen:l.length<2147483648):
  ∀ (r p:List Cl) (m:Nat) (o:List Cl),l=p++r→r.length<m→o.length+r.length<4294967296→kS k ret l m (p.length:Int) o=ret (o++co r):=by
 intro r
 induction r with
 |nil=>
  intro p m o h hm ho
  obtain ⟨m,rfl,hm'⟩:=ao hm
  simp only [kS,oV,aM h,ac,co,List.filter_nil,List.append_nil]
 |cons x r ih=>
  intro p m o h hm ho
  obtain ⟨m,rfl,hm'⟩:=ao hm
  obtain ⟨e1,e2,e3,e4⟩:=aJ h (by omega)
  have hx:aV x:=hl x (by rw [h];simp)
  simp only [List.length_cons] at ho
  simp only [kS,oV,e1,ag,e2,Option.bind_some,am hk,Ee hk hx,e3]
  cases hb:jt x with
  |true=>
   rw [ag,bM (by simp;omega),ih (p++[x]) m (o++[x]) e4 hm' (by simp;omega)]
   unfold co
   rw [List.filter_cons_of_pos hb,List.append_assoc];rfl
  |false=>
   rw [ac,ih (p++[x]) m o e4 hm' (by omega)]
   unfold co
   rw [List.filter_cons_of_neg (by rw [hb];decide)]
theorem RA (hk:Fu k) {l:List Cl} (hl:aj l) (hlen:l.length<2147483648) (ret:List Cl→Option S):pS k l ret=ret (co l):=by
 simp only [pS,xv]
 have:=NZ hk ret hl hlen l [] k [] rfl (by have:4294967296≤k:=hk;omega) (by simp;omega)
 simpa using this
theorem Ef (hk:Fu k) {f:List Cl} (hf:aj f) (hlen:f.length<2147483648) (ret:List Cl×Int→Option S):mP k f ret=ret (c_ f):=by
 have:=yL f
 simp only [mP,Fb,am hk,lO hk hf hlen,RA hk hf hlen,g4 hk (tG hf) (show (co f).length<2147483648 by omega)]
 unfold c_
 cases be f with
 |true=>rw [Bool.not_true,ac,if_pos rfl];rfl
 |false=>rw [Bool.not_false,ag,if_neg (by decide)]
theorem Ru (hk:Fu k) {f:List Cl} (hf:aj f) (hlen:f.length<2147483648) (ret:List Cl×Int→Option S):pO k f ret=ret (dp f):=by
 simp only [pO,Fc,am hk,Rr hk hf hlen,bP]
 unfold dp
 cases be f with
 |true=>
  rw [if_pos rfl,if_pos rfl]
  by_cases h0:(aZ f).2=0
  ·have hr:=gf h0
   rw [decide_eq_true h0,Bool.not_true,ac,if_pos h0,Ef hk hr.2 hr.lt]
   unfold c_
   rw [if_pos hr.right]
  ·rw [decide_eq_false h0,Bool.not_false,ag,if_neg h0]
 |false=>
  have e1: ∀ (x y:List Cl×Int),(if false=true then x else y)=y:=fun x y=>if_neg (by decide)
  rw [e1,e1];exact ag _ _
def eW (f g:List Cl):List Cl×Int:=eC (meets f g)
theorem Rx (hk:Fu k) {f g:List Cl} (hf:aj f) (hg:aj g) (h1:f.length<1073741824) (h2:g.length<1073741824) (ret:List Cl×Int→Option S):mR k f g ret=ret (cM f g):=by
 simp only [mR,Fh,am hk,List.nil_append]
 rw [bM (by simp;omega),bM (by omega),g4 hk (fG hf hg) (by rw [List.length_append];omega)]
 rfl
theorem uV {f g:List Cl} (hf:RFa f) (hg:RFa g) (h:(cM f g).2=0):RFa (cM f g).1:=
 AF (fG hf.1.2 hg.1.2) (fun c hc=>by
  rcases List.mem_append.1 hc with h|h
  ·exact hf.2 c h
  ·exact hg.2 c h) h
theorem Rt (hk:Fu k) {b c:Cl} (hb:aV b) (hc:aV c) (ret:Cl×Bool→Option S):pT k b c ret=ret (ck c b,jt (ck c b)):=by
 simp only [pT,Fi,am hk,wJ hk hc hb,Ee hk (rh hc hb)]
theorem N3 (hk:Fu k) (ret:List Cl→Option S) {c:Cl} (hc:aV c) {l:List Cl} (hl:aj l) (hlen:l.length<2147483648):
  ∀ (r p:List Cl) (m:Nat) (o:List Cl),l=p++r→r.length<m→o.length+r.length<4294967296→kR k ret c l m (p.length:Int) o=ret (o++co (r.map (ck c))):=by
 intro r
 induction r with
 |nil=>
  intro p m o h hm ho
  obtain ⟨m,rfl,hm'⟩:=ao hm
  simp only [kR,oU,aM h,ac,List.map_nil,co,List.filter_nil,List.append_nil]
 |cons x r ih=>
  intro p m o h hm ho
  obtain ⟨m,rfl,hm'⟩:=ao hm
  obtain ⟨e1,e2,e3,e4⟩:=aJ h (by omega)
  have hx:aV x:=hl x (by rw [h];simp)
  simp only [List.length_cons] at ho
  simp only [kR,oU,e1,ag,e2,Option.bind_some,am hk,Rt hk hx hc,e3]
  cases hb:jt (ck c x) with
  |true=>
   rw [ag,bM (by simp;omega),ih (p++[x]) m (o++[ck c x]) e4 hm' (by simp;omega)]
   unfold co
   rw [List.map_cons,List.filter_cons_of_pos hb,List.append_assoc];rfl
  |false=>
   rw [ac,ih (p++[x]) m o e4 hm' (by omega)]
   unfold co
   rw [List.map_cons,List.filter_cons_of_neg (by rw [hb];decide)]
theorem RB (hk:Fu k) {c:Cl} (hc:aV c) {l:List Cl} (hl:aj l) (hlen:l.length<2147483648) (ret:List Cl→Option S):pR k l c ret=ret (co (l.map (ck c))):=by
 simp only [pR,xu]
 have:=N3 hk ret hc hl hlen l [] k [] rfl (by have:4294967296≤k:=hk;omega) (by simp;omega)
 simpa using this
theorem NQ (hk:Fu k) (ret:List Cl×Int→Option S) {g f:List Cl} (hf:aj f) (hg:aj g) (hlf:f.length<32768) (hlg:g.length<32768):
  ∀ (r p:List Cl) (m:Nat) (o:List Cl),f=p++r→r.length<m→aj o→o.length+r.length*g.length<1073741825→kT k ret g f m (p.length:Int) o=ret (aX (o++co (meets r g))):=by
 intro r
 induction r with
 |nil=>
  intro p m o h hm hok ho
  obtain ⟨m,rfl,hm'⟩:=ao hm
  simp only [kT,oW,aM h,ac,am hk]
  rw [g4 hk hok (by omega)]
  simp [meets,co]
 |cons x r ih=>
  intro p m o h hm hok ho
  obtain ⟨m,rfl,hm'⟩:=ao hm
  obtain ⟨e1,e2,e3,e4⟩:=aJ h (by omega)
  have hx:aV x:=hf x (by rw [h];simp)
  have hmul:(x::r).length*g.length=r.length*g.length+g.length:=by rw [List.length_cons,Nat.succ_mul]
  rw [hmul] at ho
  have hcl:=yL (g.map (ck x))
  rw [List.length_map] at hcl
  simp only [kT,oW,e1,ag,e2,Option.bind_some,am hk,RB hk hx hg (show g.length<2147483648 by omega),e3]
  rw [bM (by omega),ih (p++[x]) m _ e4 hm' (fG hok fun c hc=>by
   obtain ⟨b,hb,rfl⟩:=List.mem_map.1 (mF hc).1
   exact rh hx (hg b hb)) (by rw [List.length_append];omega)]
  have:co (meets (x::r) g)=co (g.map (ck x))++co (meets r g):=by simp [meets,co]
  rw [this,List.append_assoc]
theorem Ry (hk:Fu k) {f g:List Cl} (hf:aj f) (hg:aj g) (h1:f.length<32768) (h2:g.length<32768) (ret:List Cl×Int→Option S):kx k f g ret=ret (eW f g):=by
 simp only [kx,xw]
 have hb:f.length*g.length<1073741824:=Nat.lt_of_le_of_lt (Nat.mul_le_mul (Nat.le_of_lt_succ h1) (Nat.le_of_lt_succ h2)) (by decide)
 have:=NQ hk ret hf hg h1 h2 f [] k [] rfl (by have:4294967296≤k:=hk;omega) (fun c hc=>by cases hc) (by simp;omega)
 simpa [eW,eC] using this
theorem lq {f g:List Cl} (hf:aj f) (hg:aj g) (h:(eW f g).2=0):RFa (eW f g).1:=nq (ri hf hg) h
theorem GB {s i:Int} {j:Nat} (h:(dr s i).toNat.testBit j=true):s.toNat.testBit j=true:=by
 unfold dr at h
 split at h
 ·rw [Int.toNat_natCast,lu,Nat.testBit_and,Bool.and_eq_true,Bool.and_eq_true] at h;exact h.1.1
 ·rw [Int.toNat_natCast,Nat.testBit_and,Bool.and_eq_true] at h;exact h.1
theorem calm_bits {c:Cl}:bF c=false↔ ∀j,¬ (c.pos.toNat.testBit j=true∧c.neg.toNat.testBit j=true):=by
 unfold bF
 rw [Bool.not_eq_false',decide_eq_true_eq]
 constructor
 ·intro h j ⟨h1,h2⟩
  have:(c.pos.toNat&&&c.neg.toNat).testBit j=true:=by rw [Nat.testBit_and,h1,h2];rfl
  rw [h,Nat.zero_testBit] at this;cases this
 ·intro h
  apply Nat.eq_of_testBit_eq
  intro j
  rw [Nat.zero_testBit,Nat.testBit_and]
  cases h1:c.pos.toNat.testBit j with
  |false=>rfl
  |true=>
   cases h2:c.neg.toNat.testBit j with
   |false=>rfl
   |true=>exact absurd ⟨h1,h2⟩ (h j)
theorem z6 {c:Cl} {i:Int} (h:bF c=false):bF (bN i c)=false:=by
 rw [calm_bits] at h ⊢
 exact fun j ⟨h1,h2⟩=>h j ⟨GB h1,GB h2⟩
def cq (i:Int) (c:Cl) (h:List Cl) (q:List Cl×Int):List Cl×Int:=
 if q.2=0 then if (eW [bN i c] q.1).2=0 then cM h (eW [bN i c] q.1).1 else ([],(eW [bN i c] q.1).2) else ([],q.2)
def bV (i:Int) (r h:List Cl) (c:Cl):List Cl×Int:=
 if bY c.pos i then cq i c h (c_ r) else if bY c.neg i then cq i c h (dp r) else cM h [bN i c]
def dA (f:List Cl) (i:Int) (r:List Cl):List Cl×Int:=if cZ f&&be r&&gH i then aL (bV i r) [] f else ([],2)
theorem B0 {i:Int} {c:Cl} {h:List Cl} {q:List Cl×Int} (hh:RFa h) (hq:q.2=0→RFa q.1) (h0:(cq i c h q).2=0):RFa (cq i c h q).1:=by
 unfold cq at h0 ⊢
 split
 ·next h1=>
  rw [if_pos h1] at h0
  split
  ·next h2=>rw [if_pos h2] at h0;exact uV hh (lq (df (dZ i c)).2 (hq h1).1.2 h2) h0
  ·next h2=>rw [if_neg h2] at h0;exact absurd h0 h2
 ·next h1=>rw [if_neg h1] at h0;exact absurd h0 h1
theorem BY {i:Int} {r h:List Cl} {c:Cl} (hr:RF r) (hh:RFa h) (hc:bF c=false) (h0:(bV i r h c).2=0):RFa (bV i r h c).1:=by
 unfold bV at h0 ⊢
 split
 ·next h1=>rw [if_pos h1] at h0;exact B0 hh (fun h=>rl h hr.2) h0
 ·next h1=>
  rw [if_neg h1] at h0
  split
  ·next h2=>rw [if_pos h2] at h0;exact B0 hh (fun h=>rm h hr.2) h0
  ·next h2=>rw [if_neg h2] at h0;exact uV hh (DD (dZ i c) (z6 hc)) h0
theorem Mb {i:Int} {r:List Cl} (hr:RF r): ∀ {l h:List Cl},(∀c∈l,bF c=false)→RFa h→(aL (bV i r) h l).2=0→RFa (aL (bV i r) h l).1:=by
 intro l
 induction l with
 |nil=>intro h _ hh _;exact hh
 |cons c l ih=>
  intro h hl hh h0
  unfold aL at h0 ⊢
  split
  ·next h1=>
   rw [if_pos h1] at h0
   exact ih (fun d hd=>hl d (by simp [hd])) (BY hr hh (hl c (by simp)) h1) h0
  ·next h1=>rw [if_neg h1] at h0;exact absurd h0 h1
theorem B1 {f r:List Cl} {i:Int} (hf:aj f) (hr:aj r) (h:(dA f i r).2=0):RFa (dA f i r).1:=by
 unfold dA at h ⊢
 split
 ·next hc=>
  rw [if_pos hc] at h
  simp only [Bool.and_eq_true] at hc
  exact Mb ((gm hr).1 hc.1.2) ((r_ hf).1 hc.1.1).2 ww h
 ·next hc=>rw [if_neg hc] at h;exact absurd h (by decide)
theorem LX (hk:Fu k) (ret:List Cl×Int→Option S) (rec0:Int→List Cl→Option S) (i:Int) (r f:List Cl) {h:List Cl} {v:Int} {g:List Cl} {e:Int} (hh:RF h) (hg:e=0→RF g):
  kQ k ret rec0 i r f v h k g e=if e=0 then if (cM h g).2=0 then rec0 (IntKind.wrap .i64 (v+1)) (cM h g).1 else ret ([],(cM h g).2) else ret ([],e):=by
 obtain ⟨q,hq⟩: ∃q,k=q+1:=⟨k-1,by have:4294967296≤k:=hk;omega⟩
 have: ∀j,j=q+1→kQ k ret rec0 i r f v h j g e=oT k ret i r f v h rec0 g e:=by rintro j rfl;rfl
 rw [this k hq]
 simp only [oT,bP]
 by_cases h0:e=0
 ·have l1:=hh.len;have l2:=(hg h0).len
  rw [decide_eq_true h0,ag,if_pos h0,am hk,Rx hk hh.2 (hg h0).2 (by omega) (by omega)]
  by_cases h1:(cM h g).2=0
  ·rw [decide_eq_true h1,if_pos h1];exact ac _ _
  ·rw [decide_eq_false h1,if_neg h1];exact ag _ _
 ·rw [decide_eq_false h0,ac,if_neg h0];exact ag _ _
theorem NR (hk:Fu k) (ret:List Cl×Int→Option S) {i:Int} {q:List Cl} (hq:RF q) {l:List Cl} (hl:aj l) (hc: ∀c∈l,bF c=false) (hlen:l.length<2147483648):
  ∀ (r p:List Cl) (m:Nat) (h:List Cl),l=p++r→r.length<m→RFa h→iL k ret i q l m (p.length:Int) h=ret (aL (bV i q) h r):=by
 intro r
 induction r with
 |nil=>
  intro p m h e hm hh
  obtain ⟨m,rfl,hm'⟩:=ao hm
  simp only [iL,mf,aM e,ac];rfl
 |cons x r ih=>
  intro p m h e hm hh
  obtain ⟨m,rfl,hm'⟩:=ao hm
  obtain ⟨e1,e2,e3,e4⟩:=aJ e (by omega)
  have hx:aV x:=hl x (by rw [e];simp)
  have hxc:bF x=false:=hc x (by rw [e];simp)
  have hg:=DD (dZ i x) (z6 hxc)
  have key: ∀ (g:List Cl) (e:Int),(e=0→RFa g)→(bV i q h x=if e=0 then cM h g else ([],e))→kQ k ret (iL k ret i q l m) i q l (p.length:Int) h k g e=ret (aL (bV i q) h (x::r)):=by
   intro g e hge hput
   rw [LX hk _ _ _ _ _ hh.1 (fun h=>(hge h).1),aL,hput]
   by_cases h0:e=0
   ·rw [if_pos h0,if_pos h0]
    by_cases h1:(cM h g).2=0
    ·rw [if_pos h1,if_pos h1,e3]
     exact ih (p++[x]) m _ e4 hm' (uV hh (hge h0) h1)
    ·rw [if_neg h1,if_neg h1]
   ·rw [if_neg h0,if_neg h0,if_neg h0]
  have em: ∀ (s:List Cl),RF s→ ∀ (f:List Cl×Int→Option S),kx k [Cl.mk (dr x.pos i) (dr x.neg i)] s f=f (eW [bN i x] s):=fun s hs f=>Ry hk hg.1.2 hs.2 (by simp) (by have:=hs.len;omega) f
  simp only [iL,mf,e1,ag,e2,Option.bind_some,am hk,n_ hk hx.1,n_ hk hx.2,lN hk hx.1,lN hk hx.2,Ef hk hq.2 hq.lt,Ru hk hq.2 hq.lt,bP]
  cases hp:bY x.pos i with
  |true=>
   rw [ag]
   by_cases h1:(c_ q).2=0
   ·have ho:=rl h1 hq.2
    rw [decide_eq_true h1,ag,em _ ho.1]
    exact key _ _ (fun h0=>lq hg.1.2 ho.1.2 h0) (by unfold bV cq;simp only [hp,h1,if_true])
   ·rw [decide_eq_false h1,ac]
    exact key _ _ (fun h0=>absurd h0 h1) (by unfold bV cq;simp only [hp,h1,if_true,if_false])
  |false=>
   rw [ac]
   cases hn:bY x.neg i with
   |true=>
    rw [ag]
    by_cases h1:(dp q).2=0
    ·have ho:=rm h1 hq.2
     rw [decide_eq_true h1,ag,em _ ho.1]
     exact key _ _ (fun h0=>lq hg.1.2 ho.1.2 h0) (by unfold bV cq;simp only [hp,hn,h1,if_true,if_false,Bool.false_eq_true])
    ·rw [decide_eq_false h1,ac]
     exact key _ _ (fun h0=>absurd h0 h1) (by unfold bV cq;simp only [hp,hn,h1,if_true,if_false,Bool.false_eq_true])
   |false=>
    rw [ac]
    exact key [bN i x] 0 (fun _=>hg) (by unfold bV;simp only [hp,hn,if_true,if_false,Bool.false_eq_true])
theorem Rv (hk:Fu k) {f r:List Cl} {i:Int} (hf:aj f) (hr:aj r) (h1:f.length<2147483648) (h2:r.length<2147483648) (ret:List Cl×Int→Option S):pP k f i r ret=ret (dA f i r):=by
 simp only [pP,xt,am hk,wL hk hf h1,Rn hk,lO hk hr h2]
 unfold dA gH
 cases ha:cZ f with
 |false=>rw [Bool.not_false,ag];rfl
 |true=>
  rw [Bool.not_true,ac]
  by_cases hd:0≤i∧i<24
  ·rw [decide_eq_true hd,Bool.not_true,ac]
   cases hb:be r with
   |false=>rw [Bool.not_false,ag];rfl
   |true=>
    rw [Bool.not_true,ac]
    exact NR hk ret ((gm hr).1 hb) hf ((r_ hf).1 ha).2 h1 f [] k [] rfl (by have:4294967296≤k:=hk;omega) ww
  ·rw [decide_eq_false hd,Bool.not_false,ag,Bool.and_false,if_neg (by decide)]
end Go.Proofs.YtapmagaejigpnaaGreatDoor
namespace Go.Proofs.YtapmagaejigpnaaGreatDoor
open Go PI
set_option linter.unusedVariables false
set_option linter.unusedSimpArgs false
mutual
def az:Tm→Nat
 | .mk _ _ _ _ ks sys=>1+aE ks+aD sys
def aE:List Tm→Nat
 |[]=>0
 |t::l=>az t+aE l
def aD:List (Br Tm)→Nat
 |[]=>0
 |b::l=>gq b+aD l
def gq:Br Tm→Nat
 | .mk _ ks=>aE ks
end
mutual
def av:Tm→Nat
 | .mk _ _ _ _ ks sys=>max (bo ks) (bu sys)+1
def bo:List Tm→Nat
 |[]=>0
 |t::l=>max (av t) (bo l)
def bu:List (Br Tm)→Nat
 |[]=>0
 |b::l=>max (jE b) (bu l)
def jE:Br Tm→Nat
 | .mk _ ks=>bo ks
end
theorem ke (b:Br Tm):gq b=aE b.kids:=by cases b;rw [gq]
theorem m6 (b:Br Tm):jE b=bo b.kids:=by cases b;rw [jE]
theorem w5 (t:Tm):1≤az t:=by cases t;rw [az];omega
theorem wZ: ∀ {l:List Tm} {x:Tm},x∈l→az x≤aE l:=by
 intro l
 induction l with
 |nil=>intro x h;cases h
 |cons t l ih=>
  intro x h
  rw [aE]
  rcases List.mem_cons.1 h with rfl|h
  ·omega
  ·have:=ih h;omega
theorem EE: ∀ {l:List (Br Tm)} {b:Br Tm},b∈l→aE b.kids≤aD l:=by
 intro l
 induction l with
 |nil=>intro x h;cases h
 |cons t l ih=>
  intro x h
  rw [aD,ke]
  rcases List.mem_cons.1 h with rfl|h
  ·omega
  ·have:=ih h;omega
theorem uk: ∀ {l:List Tm} {x:Tm},x∈l→av x≤bo l:=by
 intro l
 induction l with
 |nil=>intro x h;cases h
 |cons t l ih=>
  intro x h
  rw [bo]
  rcases List.mem_cons.1 h with rfl|h
  ·omega
  ·have:=ih h;omega
theorem zd: ∀ {l:List (Br Tm)} {b:Br Tm},b∈l→bo b.kids≤bu l:=by
 intro l
 induction l with
 |nil=>intro x h;cases h
 |cons t l ih=>
  intro x h
  rw [bu,m6]
  rcases List.mem_cons.1 h with rfl|h
  ·omega
  ·have:=ih h;omega
theorem d_ {Q:Tm→Prop} (h: ∀kd n nm r ks sys,(∀x∈ks,Q x)→(∀b∈sys,∀x∈b.kids,Q x)→Q (.mk kd n nm r ks sys)) (t:Tm):Q t:=by
 have: ∀m t,az t≤m→Q t:=by
  intro m
  induction m with
  |zero=>intro t ht;have:=w5 t;omega
  |succ m ih=>
   intro t ht
   cases t with
   |mk kd n nm r ks sys=>
    rw [az] at ht
    refine h _ _ _ _ _ _ (fun x hx=>ih x ?_) fun b hb x hx=>ih x ?_
    ·have:=wZ hx;omega
    ·have:=EE hb;have:=wZ hx;omega
 exact this _ t (Nat.le_refl _)
def kidsT:List Int:=[-1,0,0,0,2,1,2,2,2,1,1,3,1,3,2,2,1,1,1,0,0,0,4,1,0,0,1,5,2]
def f8 (kd:Int):Int:=if kd<0∨kd>28 then-1 else kidsT.getD kd.toNat 0
def fO (kd i:Int):Int:=if (i=1∧(kd=4∨kd=7))∨(i=0∧(kd=5∨kd=22∨kd=27)) then 1 else 0
def bU (kd i:Int):Int:=if i=0∧(kd=11∨kd=12∨kd=14) then 1 else 0
def da (kd:Int):Int:=if kd=16 then 2 else if kd=15∨kd=17∨kd=18 then 1 else 0
def aw (kd:Int):Int:=if kd=15 then 1 else 0
theorem yE (kd i:Int):0≤fO kd i∧fO kd i≤1:=by unfold fO;split<;>omega
theorem fN (kd i:Int):0≤bU kd i∧bU kd i≤1:=by unfold bU;split<;>omega
theorem d4 (kd:Int):0≤aw kd∧aw kd≤1:=by unfold aw;split<;>omega
def iQ (c:UInt8):Bool:=(decide (97≤c.toNat)&&decide (c.toNat≤122))||(decide (65≤c.toNat)&&decide (c.toNat≤90))||decide (c.toNat=95)
def m7 (c:UInt8):Bool:=decide (48≤c.toNat)&&decide (c.toNat≤57)
def nI:List UInt8→Bool
 |[]=>false
 |c::l=>iQ c&&l.all fun d=>iQ d||m7 d
def dI (kd dims:Int) (b:Br Tm):Bool:=decide ((b.kids.length:Int)=da kd)&&(cZ b.face&&eV b.face dims)
def dM (vars dims:Int):Tm→Bool
 | .mk kd n nm r ks sys=>
  (decide (f8 kd=ks.length)&&(decide (kd=1∨n=0)&&(decide (kd=2∨nm.size=0)&&decide (da kd=0→sys.length=0))))&&
  (if kd=1 then decide (r.length=0)&&(decide (0≤n)&&decide (vars<0∨n<vars))
   else if kd=2 then decide (r.length=0)&&nI nm.data.toList
   else if kd=13∨kd=21∨kd=26 then be r&&eV r dims
   else if kd=14 then cZ r&&eV r dims
   else sys.all (dI kd dims)&&decide (r.length=0))
def eb (vars v:Int):Int:=if vars<0 then vars else vars+v
mutual
def bn (bd:Bool) (vars dims:Int):Tm→Bool
 | .mk kd n nm r ks sys=> !(bd&&decide (dims>24))&&(dM vars dims (.mk kd n nm r ks sys)&&(cG bd vars dims kd 0 ks&&c7 bd vars dims kd sys))
def cG (bd:Bool) (vars dims kd:Int) (i:Nat):List Tm→Bool
 |[]=>true
 |t::l=>bn bd (eb vars (fO kd i)) (dims+bU kd i) t&&cG bd vars dims kd (i+1) l
def c7 (bd:Bool) (vars dims kd:Int):List (Br Tm)→Bool
 |[]=>true
 |b::l=>mb bd vars dims kd b&&c7 bd vars dims kd l
def mb (bd:Bool) (vars dims kd:Int):Br Tm→Bool
 | .mk _ ks=>dS bd vars dims kd ks
def dS (bd:Bool) (vars dims kd:Int):List Tm→Bool
 |[]=>true
 |t::l=>bn bd vars (dims+aw kd) t&&dS bd vars dims kd l
end
def cz (t:Tm):Int:=if av t>200 then 62 else if az t>20000 then 221 else if bn false (-1) 24 t then 0 else 100
mutual
def OkT:Tm→Prop
 | .mk kd n nm r ks sys=>(aI kd∧aI n∧nm.size<1073741824∧aj r∧r.length<1073741824∧ks.length<1073741824∧sys.length<1073741824)∧bm ks∧bh sys
def bm:List Tm→Prop
 |[]=>True
 |t::l=>OkT t∧bm l
def bh:List (Br Tm)→Prop
 |[]=>True
 |b::l=>hJ b∧bh l
def hJ:Br Tm→Prop
 | .mk f ks=>(aj f∧f.length<1073741824∧ks.length<1073741824)∧bm ks
end
theorem okK_iff: ∀ {l:List Tm},bm l↔ ∀t∈l,OkT t:=by
 intro l
 induction l with
 |nil=>rw [bm];simp
 |cons t l ih=>rw [bm,ih];simp
theorem j3 {b:Br Tm}:hJ b↔(aj b.face∧b.face.length<1073741824∧b.kids.length<1073741824)∧ ∀t∈b.kids,OkT t:=by
 cases b;rw [hJ,okK_iff]
theorem okS_iff: ∀ {l:List (Br Tm)},bh l↔ ∀b∈l,(aj b.face∧b.face.length<1073741824∧b.kids.length<1073741824)∧ ∀t∈b.kids,OkT t:=by
 intro l
 induction l with
 |nil=>rw [bh];simp
 |cons t l ih=>rw [bh,ih,j3];simp
theorem OkT.node {kd n nm r ks sys} (h:OkT (.mk kd n nm r ks sys)):aI kd∧aI n∧nm.size<1073741824∧aj r∧r.length<1073741824∧ks.length<1073741824∧sys.length<1073741824:=by rw [OkT] at h;exact h.1
theorem OkT.kid {kd n nm r ks sys x} (h:OkT (.mk kd n nm r ks sys)) (hx:x∈ks):OkT x:=by rw [OkT] at h;exact okK_iff.1 h.2.1 x hx
theorem OkT.br {kd n nm r ks sys b} (h:OkT (.mk kd n nm r ks sys)) (hb:b∈sys):(aj b.face∧b.face.length<1073741824∧b.kids.length<1073741824)∧ ∀t∈b.kids,OkT t:=by rw [OkT] at h;exact okS_iff.1 h.2.2 b hb
theorem Jy {bd:Bool} {vars dims kd:Int}: ∀ {l:List Tm},dS bd vars dims kd l=l.all (bn bd vars (dims+aw kd)):=by
 intro l
 induction l with
 |nil=>rw [dS];rfl
 |cons t l ih=>rw [dS,ih];rfl
theorem oG {bd:Bool} {vars dims kd:Int}: ∀ {l:List (Br Tm)},c7 bd vars dims kd l=l.all fun b=>b.kids.all (bn bd vars (dims+aw kd)):=by
 intro l
 induction l with
 |nil=>rw [c7];rfl
 |cons b l ih=>cases b;rw [c7,ih,mb,Jy];rfl
end Go.Proofs.YtapmagaejigpnaaGreatDoor
namespace Go.Proofs.YtapmagaejigpnaaGreatDoor
open Go PI
set_option linter.unusedVariables false
set_option linter.unusedSimpArgs false
set_option maxRecDepth 100000
section
variable {H:Type} {enc:TypeId×Value→H} {w:World} {base:Nat} {spare:Nat→Bool} {held:Bool} {o:Obj} {N:au} {g:Gh UU}
noncomputable abbrev gu (enc:TypeId×Value→H) (w:World) (base:Nat) (spare:Nat→Bool) (held:Bool):=DataW.trod enc Tryz.prog w base spare held
def kj (o:Obj) (w:World) (N:au) (g:Gh UU) (e:ET) (x:EL e) (cs:List Value):Prop:= ∀ (k:Nat) (p:PU),(cx e x)[k]? =some p→ ∃v,cs[k]? =some v∧Rep (LL o) w N g v p
theorem tF {l:List (DataW H)}:l.length≤Rows.uptoBulkAll l:=by
 induction l with
 |nil=>simp [Rows.uptoBulkAll]
 |cons x r ih=>
  have:1≤Rows.uptoBulk x:=by
   cases x with
   |lit l=>cases l<;>simp [Rows.uptoBulk]
   |_=>simp [Rows.uptoBulk]
  simp only [Rows.uptoBulkAll,List.length_cons];omega
theorem build {α β:Type} {R:Nat→β→α→Prop}: ∀ (elems:List β) (s:Nat),(∀i d,elems[i]? =some d→ ∃x,R (s+i) d x)→ ∃l:List α,l.length=elems.length∧ ∀i d,elems[i]? =some d→ ∃x,l[i]? =some x∧R (s+i) d x:=by
 intro elems
 induction elems with
 |nil=>intro s h;exact ⟨[],rfl,fun i d h=>by simp at h⟩
 |cons d r ih=>
  intro s h
  obtain ⟨x,hx⟩:=h 0 d rfl
  obtain ⟨l,hl,hr⟩:=ih (s+1) fun i d' hd=>by
   obtain ⟨x,hx⟩:=h (i+1) d' (by simpa using hd)
   exact ⟨x,by rw [show s+1+i=s+(i+1) by omega];exact hx⟩
  refine ⟨x::l,by simp [hl],fun i d' hd=> ?_⟩
  cases i with
  |zero=>injection hd with hd;subst hd;exact ⟨x,rfl,hx⟩
  |succ i=>
   obtain ⟨y,hy,hr⟩:=hr i d' (by simpa using hd)
   exact ⟨y,by simpa using hy,by rw [show s+(i+1)=s+1+i by omega];exact hr⟩
theorem vG (hN: ∀b o,¬N b o) {e:ET} {tS tE:TypeId} (ht:Tryz.prog.underlying tS=some (.slice tE)) (hc:Tryz.prog.cellsOf tE=kK e) {Q:EL e→DataW H→Prop} {n:Nat} {cs:List Value} {d:DataW H} {pl:List MemPlace}
  (hel: ∀ (cs:List Value) (d:DataW H) (pl:List MemPlace),gu enc w base spare held n tE cs=some (d,pl)→ ∃x:EL e,kj o w N g e x cs∧Q x d) (h:gu enc w base spare held (n+1) tS cs=some (d,pl)):
  ∃ (v:Value) (l:List (EL e)) (ds:List (DataW H)),cs=[v]∧Rep (LL o) w N g v (.sl (U:=UU) e l .none)∧l.length=ds.length∧(∀ (i:Nat) (x:EL e) (y:DataW H),l[i]? =some x→ds[i]? =some y→Q x y)∧Rows.uptoBulkAll ds+1≤Rows.uptoBulk d:=by
 rcases DataW.trod_slice ht h with ⟨rfl,hx⟩|⟨a,len,cap,elems,rest,m,hm,rfl,hx,hb,hl,hcp,hlen,hee,_,_⟩
 ·injection hx with hx _
  subst hx
  exact ⟨_,[],[],rfl,Rep.sl (X:=LL o) (N:=N) (g:=g) none 0 0 e (show List (EL e) from []) .none (fun _ _=>undef) rfl (Nat.le_refl _) trivial (fun j x hx=>by cases hx) (fun j x hx=>by cases hx),rfl,fun i x y h=>by simp at h,by simp [Rows.uptoBulkAll,Rows.uptoBulk]⟩
 ·obtain rfl:n=m:=by omega
  injection hx with hx _
  subst hx
  obtain ⟨l,hll,hlr⟩:=build (R:=fun i (y:DataW H×List MemPlace) (x:EL e)=> ∃cs',w.cells? base (a.add (i*Tryz.prog.cellsOf tE)) (Tryz.prog.cellsOf tE)=some cs'∧kj o w N g e x cs'∧Q x y.1) elems 0 fun i y hy=>by
   have hi:i<len:=by rw [←hlen];exact (List.getElem?_eq_some_iff.1 hy).1
   have:=hee i hi
   rw [hy] at this
   obtain ⟨cs',h1,h2⟩:=Option.bind_eq_some_iff.1 this
   obtain ⟨x,hx1,hx2⟩:=hel cs' y.1 y.2 h2
   exact ⟨x,cs',by simpa using h1,hx1,hx2⟩
  have hget: ∀ (j:Nat) (x:EL e),l[j]? =some x→ ∃ (y:DataW H×List MemPlace) (cs':List Value),elems[j]? =some y∧w.cells? base (a.add (j*Tryz.prog.cellsOf tE)) (Tryz.prog.cellsOf tE)=some cs'∧kj o w N g e x cs'∧Q x y.1:=fun j x hx=>by
   have hj:j<elems.length:=by rw [←hll];exact (List.getElem?_eq_some_iff.1 hx).1
   obtain ⟨x',hx',cs',h1,h2,h3⟩:=hlr j _ (List.getElem?_eq_getElem hj)
   rw [hx] at hx'
   injection hx' with hx'
   subst hx'
   exact ⟨_,cs',List.getElem?_eq_getElem hj,by simpa using h1,h2,h3⟩
  have hcell: ∀ (j:Nat) (x:EL e),l[j]? =some x→ ∀ (k:Nat) (p:PU),(cx e x)[k]? =some p→ ∃v,w.cell? (a.add (j*(LL o).esize e+k))=some v∧Rep (LL o) w N g v p:=fun j x hx k p hp=>by
   obtain ⟨y,cs',_,h1,h2,_⟩:=hget j x hx
   obtain ⟨v,hv,hr⟩:=h2 k p hp
   obtain ⟨_,hl',hcs⟩:=World.cells?_some h1
   have hk:k<Tryz.prog.cellsOf tE:=by rw [←hl'];exact (List.getElem?_eq_some_iff.1 hv).1
   have:=hcs k hk
   rw [hv,Go.Deep.add_add,hc] at this
   exact ⟨v,this,hr⟩
  refine ⟨_,l,elems.map (·.1),rfl,Rep.sl (X:=LL o) (some a) len cap e l .none (fun j k=>(w.cell? (a.add (j*(LL o).esize e+k))).getD undef) (by rw [←hlen];exact hll) hl trivial (fun j x hx k p hp=> ?_) (fun j x hx k p hp=> ?_),by simpa using hll,fun i x y hx hy=> ?_,by simp [Rows.uptoBulk]⟩
  ·obtain ⟨v,hv,_⟩:=hcell j x hx k p hp
   exact ⟨a,rfl,by simp [hv],hN _ _⟩
  ·obtain ⟨v,hv,hr⟩:=hcell j x hx k p hp
   simp only [hv];exact hr
  ·obtain ⟨y',cs',h1,_,_,h3⟩:=hget i x hx
   have:y=y'.1:=by
    rw [List.getElem?_map,h1] at hy
    injection hy with hy;exact hy.symm
   subst this
   exact h3
theorem BS {n:Nat} {cs:List Value} {d:DataW H} {pl:List MemPlace} (h:gu enc w base spare held n 3 cs=some (d,pl)): ∃z,cs=[.int .i64 z]∧aI z:=by
 obtain ⟨z,rfl,_,hw⟩:=DataW.trod_int Tryz.underlying3 h
 refine ⟨z,rfl, ?_⟩
 simp [Lit.wf,IntKind.has] at hw
 have h1:IntKind.i64.min= -9223372036854775808:=rfl
 have h2:IntKind.i64.max=9223372036854775807:=rfl
 unfold aI
 omega
theorem BT {n:Nat} {cs:List Value} {d:DataW H} {pl:List MemPlace} (h:gu enc w base spare held n 55 cs=some (d,pl)): ∃z,cs=[.int .u32 z]∧U32 z:=by
 obtain ⟨z,rfl,_,hw⟩:=DataW.trod_int Tryz.underlying55 h
 refine ⟨z,rfl, ?_⟩
 simp [Lit.wf,IntKind.has] at hw
 have h1:IntKind.u32.min=0:=rfl
 have h2:IntKind.u32.max=4294967295:=rfl
 unfold U32
 omega
def QC (c:Cl) (d:DataW H):Prop:=aV c
def QT (t:Tm) (d:DataW H):Prop:=az t≤Rows.uptoBulk d∧(Rows.uptoBulk d<1073741824→OkT t)
def QB (b:Br Tm) (d:DataW H):Prop:=gq b≤Rows.uptoBulk d∧(Rows.uptoBulk d<1073741824→(aj b.face∧b.face.length<1073741824∧b.kids.length<1073741824)∧ ∀t∈b.kids,OkT t)
theorem PL {n:Nat} {cs:List Value} {d:DataW H} {pl:List MemPlace} (h:gu enc w base spare held n 61 cs=some (d,pl)): ∃x:EL ET.C,kj o w N g ET.C x cs∧QC (show Cl from x) d:=by
 obtain ⟨xs,m,rfl,_,hl,hlen,hf⟩:=DataW.trod_struct Tryz.underlying61 h
 have hl2:cs.length=2:=hl.trans (by kernel_rfl)
 match cs,hl2,xs,hlen with
 |[a,b],_,[y0,y1],_=>
 have h0:=hf 0 _ rfl
 have h1:=hf 1 _ rfl
 have c55:Tryz.prog.cellsOf 55=1:=by kernel_rfl
 simp [c55] at h0 h1
 obtain ⟨z0,e0,k0⟩:=BT h0
 obtain ⟨z1,e1,k1⟩:=BT h1
 obtain rfl:a= .int .u32 z0:=by simpa using e0
 obtain rfl:b= .int .u32 z1:=by simpa using e1
 refine ⟨(⟨z0,z1⟩:Cl),fun k p hp=> ?_,⟨k0,k1⟩⟩
 match k,hp with
 |0,hp=>cases hp;exact ⟨_,rfl,.int _ _⟩
 |1,hp=>cases hp;exact ⟨_,rfl,.int _ _⟩
 |k+2,hp=>simp [cx] at hp
theorem Sz {l:List Tm} {ds:List (DataW H)} (hl:l.length=ds.length) (h: ∀ (i:Nat) (x:Tm) (y:DataW H),l[i]? =some x→ds[i]? =some y→QT x y):aE l≤Rows.uptoBulkAll ds∧(Rows.uptoBulkAll ds<1073741824→ ∀t∈l,OkT t):=by
 induction l generalizing ds with
 |nil=>rw [aE];exact ⟨Nat.zero_le _,fun _ t ht=>by cases ht⟩
 |cons t l ih=>
  cases ds with
  |nil=>cases hl
  |cons d ds=>
   obtain ⟨h1,h2⟩:=h 0 t d rfl rfl
   obtain ⟨i1,i2⟩:=ih (ds:=ds) (by simpa using hl) fun i x y hx hy=>h (i+1) x y (by simpa using hx) (by simpa using hy)
   rw [aE,Rows.uptoBulkAll]
   refine ⟨by omega,fun hb u hu=> ?_⟩
   rcases List.mem_cons.1 hu with rfl|hu
   ·exact h2 (by omega)
   ·exact i2 (by omega) u hu
theorem SA {l:List (Br Tm)} {ds:List (DataW H)} (hl:l.length=ds.length) (h: ∀ (i:Nat) (x:Br Tm) (y:DataW H),l[i]? =some x→ds[i]? =some y→QB x y):aD l≤Rows.uptoBulkAll ds∧(Rows.uptoBulkAll ds<1073741824→bh l):=by
 induction l generalizing ds with
 |nil=>rw [aD,bh];exact ⟨Nat.zero_le _,fun _=>trivial⟩
 |cons t l ih=>
  cases ds with
  |nil=>cases hl
  |cons d ds=>
   obtain ⟨h1,h2⟩:=h 0 t d rfl rfl
   obtain ⟨i1,i2⟩:=ih (ds:=ds) (by simpa using hl) fun i x y hx hy=>h (i+1) x y (by simpa using hx) (by simpa using hy)
   rw [aD,Rows.uptoBulkAll,bh,j3]
   exact ⟨by omega,fun hb=>⟨h2 (by omega),i2 (by omega)⟩⟩
theorem BR (hN: ∀b o,¬N b o) {n:Nat} {cs:List Value} {d:DataW H} {pl:List MemPlace} (h:gu enc w base spare held n 22 cs=some (d,pl)):
  ∃ (v:Value) (l:List Cl),cs=[v]∧Rep (LL o) w N g v (dD l .none)∧aj l∧l.length+1≤Rows.uptoBulk d:=by
 cases n with
 |zero=>cases h
 |succ n=>
  obtain ⟨v,l,ds,rfl,hr,hl,hq,hb⟩:=vG (e:=ET.C) (Q:=fun x d=>QC (show Cl from x) d) hN Tryz.underlying22 (by kernel_rfl) (fun cs d pl h=>PL h) h
  refine ⟨v,l,rfl,hr,fun c hc=> ?_, ?_⟩
  ·obtain ⟨i,hi⟩:=List.getElem?_of_mem hc
   have hlt:i<ds.length:=by rw [←hl];exact (List.getElem?_eq_some_iff.1 hi).1
   exact hq i c _ hi (List.getElem?_eq_getElem hlt)
  ·have:=tF (l:=ds)
   have hl': @List.length Cl l=ds.length:=hl
   omega
theorem BQ (hN: ∀b o,¬N b o): ∀ (n:Nat),
  (∀ (cs:List Value) (d:DataW H) (pl:List MemPlace),gu enc w base spare held n 26 cs=some (d,pl)→ ∃x:EL ET.T,kj o w N g ET.T x cs∧QT (show Tm from x) d)∧
  (∀ (cs:List Value) (d:DataW H) (pl:List MemPlace),gu enc w base spare held n 63 cs=some (d,pl)→ ∃x:EL ET.B,kj o w N g ET.B x cs∧QB (show Br Tm from x) d)∧
  (∀ (cs:List Value) (d:DataW H) (pl:List MemPlace),gu enc w base spare held n 23 cs=some (d,pl)→ ∃ (v:Value) (l:List Tm),cs=[v]∧Rep (LL o) w N g v (fI l .none)∧aE l+1≤Rows.uptoBulk d∧l.length+1≤Rows.uptoBulk d∧(Rows.uptoBulk d<1073741824→ ∀t∈l,OkT t))∧
  (∀ (cs:List Value) (d:DataW H) (pl:List MemPlace),gu enc w base spare held n 24 cs=some (d,pl)→ ∃ (v:Value) (l:List (Br Tm)),cs=[v]∧Rep (LL o) w N g v (eL l .none)∧aD l+1≤Rows.uptoBulk d∧l.length+1≤Rows.uptoBulk d∧(Rows.uptoBulk d<1073741824→bh l)):=by
 intro n
 induction n with
 |zero=>exact ⟨fun cs d pl h=>(by cases h),fun cs d pl h=>(by cases h),fun cs d pl h=>(by cases h),fun cs d pl h=>(by cases h)⟩
 |succ n ih=>
 obtain ⟨iT,iB,iK,iS⟩:=ih
 have c3:Tryz.prog.cellsOf 3=1:=by kernel_rfl
 have c9:Tryz.prog.cellsOf 9=1:=by kernel_rfl
 have c22:Tryz.prog.cellsOf 22=1:=by kernel_rfl
 have c23:Tryz.prog.cellsOf 23=1:=by kernel_rfl
 have c24:Tryz.prog.cellsOf 24=1:=by kernel_rfl
 refine ⟨fun cs d pl h=> ?_,fun cs d pl h=> ?_,fun cs d pl h=> ?_,fun cs d pl h=> ?_⟩
 ·obtain ⟨xs,m,hm,hx,hl,hlen,hf⟩:=DataW.trod_struct Tryz.underlying26 h
  obtain rfl:n=m:=by omega
  injection hx with hx _
  subst hx
  have hl6:cs.length=6:=hl.trans (by kernel_rfl)
  match cs,hl6,xs,hlen with
  |[a0,a1,a2,a3,a4,a5],_,[y0,y1,y2,y3,y4,y5],_=>
  have h0:=hf 0 _ rfl
  have h1:=hf 1 _ rfl
  have h2:=hf 2 _ rfl
  have h3:=hf 3 _ rfl
  have h4:=hf 4 _ rfl
  have h5:=hf 5 _ rfl
  simp [c3,c9,c22,c23,c24] at h0 h1 h2 h3 h4 h5
  obtain ⟨z0,e0,k0⟩:=BS h0
  obtain ⟨z1,e1,k1⟩:=BS h1
  obtain ⟨s,e2,k2,_⟩:=DataW.trod_string Tryz.underlying9 h2
  obtain ⟨v3,l3,e3,r3,k3,m3⟩:=BR (o:=o) (g:=g) hN h3
  obtain ⟨v4,l4,e4,r4,k4,m4,q4⟩:=iK _ _ _ h4
  obtain ⟨v5,l5,e5,r5,k5,m5,q5⟩:=iS _ _ _ h5
  obtain rfl:a0= .int .i64 z0:=by simpa using e0
  obtain rfl:a1= .int .i64 z1:=by simpa using e1
  obtain rfl:a2= .string s:=by simpa using e2
  obtain rfl:a3=v3:=by simpa using e3
  obtain rfl:a4=v4:=by simpa using e4
  obtain rfl:a5=v5:=by simpa using e5
  have hs:s.size<Rows.uptoBulk y2.1:=by
   rw [k2]
   simp [Rows.uptoBulk]
  refine ⟨Tm.mk z0 z1 s l3 l4 l5,fun k p hp=> ?_, ?_,fun hb=> ?_⟩
  ·match k,hp with
   |0,hp=>cases hp;exact ⟨_,rfl,.int _ _⟩
   |1,hp=>cases hp;exact ⟨_,rfl,.int _ _⟩
   |2,hp=>cases hp;exact ⟨_,rfl,.str _⟩
   |3,hp=>cases hp;exact ⟨_,rfl,r3⟩
   |4,hp=>cases hp;exact ⟨_,rfl,r4⟩
   |5,hp=>cases hp;exact ⟨_,rfl,r5⟩
   |k+6,hp=>simp [cx] at hp
  ·show az _≤_
   rw [az]
   simp only [List.map_cons,List.map_nil,Rows.uptoBulk,Rows.uptoBulkAll]
   omega
  ·simp only [List.map_cons,List.map_nil,Rows.uptoBulk,Rows.uptoBulkAll] at hb
   show OkT _
   rw [OkT,okK_iff]
   exact ⟨⟨k0,k1,by omega,k3,by omega,by omega,by omega⟩,q4 (by omega),q5 (by omega)⟩
 ·obtain ⟨xs,m,hm,hx,hl,hlen,hf⟩:=DataW.trod_struct Tryz.underlying63 h
  obtain rfl:n=m:=by omega
  injection hx with hx _
  subst hx
  have hl2:cs.length=2:=hl.trans (by kernel_rfl)
  match cs,hl2,xs,hlen with
  |[a0,a1],_,[y0,y1],_=>
  have h0:=hf 0 _ rfl
  have h1:=hf 1 _ rfl
  simp [c22,c23] at h0 h1
  obtain ⟨v3,l3,e3,r3,k3,m3⟩:=BR (o:=o) (g:=g) hN h0
  obtain ⟨v4,l4,e4,r4,k4,m4,q4⟩:=iK _ _ _ h1
  obtain rfl:a0=v3:=by simpa using e3
  obtain rfl:a1=v4:=by simpa using e4
  refine ⟨Br.mk l3 l4,fun k p hp=> ?_, ?_,fun hb=> ?_⟩
  ·match k,hp with
   |0,hp=>cases hp;exact ⟨_,rfl,r3⟩
   |1,hp=>cases hp;exact ⟨_,rfl,r4⟩
   |k+2,hp=>simp [cx] at hp
  ·show gq _≤_
   rw [gq]
   simp only [List.map_cons,List.map_nil,Rows.uptoBulk,Rows.uptoBulkAll]
   omega
  ·simp only [List.map_cons,List.map_nil,Rows.uptoBulk,Rows.uptoBulkAll] at hb
   exact ⟨⟨k3,by show l3.length<_;omega,by show l4.length<_;omega⟩,q4 (by omega)⟩
 ·obtain ⟨v,l,ds,rfl,hr,hl,hq,hb⟩:=vG (e:=ET.T) (Q:=fun x d=>QT (show Tm from x) d) hN Tryz.underlying23 (by kernel_rfl) iT h
  obtain ⟨s1,s2⟩:=Sz (l:=l) hl hq
  have:=tF (l:=ds)
  have hl': @List.length Tm l=ds.length:=hl
  exact ⟨v,l,rfl,hr,by omega,by omega,fun hd=>s2 (by omega)⟩
 ·obtain ⟨v,l,ds,rfl,hr,hl,hq,hb⟩:=vG (e:=ET.B) (Q:=fun x d=>QB (show Br Tm from x) d) hN Tryz.underlying24 (by kernel_rfl) iB h
  obtain ⟨s1,s2⟩:=SA (l:=l) hl hq
  have:=tF (l:=ds)
  have hl': @List.length (Br Tm) l=ds.length:=hl
  exact ⟨v,l,rfl,hr,by omega,by omega,fun hd=>s2 (by omega)⟩
end
end Go.Proofs.YtapmagaejigpnaaGreatDoor
namespace Go.Proofs
open Go.Shelf
def Tryz.sortCl_ren:Go.Shelf.Ren:=⟨fun|6=>151|15=>195|14=>194|28=>221|29=>222|20=>213|21=>214|22=>215|23=>216|24=>217|25=>218|26=>219|27=>220|46=>229|47=>230|48=>231|49=>232|50=>233|57=>242|n=>n,fun|22=>22|24=>61|25=>152|3=>3|39=>57|0=>0|53=>55|55=>168|4=>4|46=>184|45=>183|50=>188|5=>5|9=>9|66=>193|70=>197|76=>202|77=>124|n=>n,fun|n=>n⟩
theorem Tryz.sortCl:Go.Proofs.SlLaysF0.n6 Tryz.prog Tryz.sortCl_ren:={
 mixed:=by kernel_rfl
 f6:=⟨Tryz.f151.name,by decide,Tryz.func151.trans (congrArg some (by kernel_rfl))⟩
 f14:=⟨Tryz.f194.name,by decide,Tryz.func194.trans (congrArg some (by kernel_rfl))⟩
 f15:=Tryz.func195.trans (congrArg some (by kernel_rfl))
 f20:=⟨Tryz.f213.name,by decide,Tryz.func213.trans (congrArg some (by kernel_rfl))⟩
 f21:=⟨Tryz.f214.name,by decide,Tryz.func214.trans (congrArg some (by kernel_rfl))⟩
 f22:=⟨Tryz.f215.name,by decide,Tryz.func215.trans (congrArg some (by kernel_rfl))⟩
 f23:=⟨Tryz.f216.name,by decide,Tryz.func216.trans (congrArg some (by kernel_rfl))⟩
 f24:=⟨Tryz.f217.name,by decide,Tryz.func217.trans (congrArg some (by kernel_rfl))⟩
 f25:=⟨Tryz.f218.name,by decide,Tryz.func218.trans (congrArg some (by kernel_rfl))⟩
 f26:=⟨Tryz.f219.name,by decide,Tryz.func219.trans (congrArg some (by kernel_rfl))⟩
 f27:=⟨Tryz.f220.name,by decide,Tryz.func220.trans (congrArg some (by kernel_rfl))⟩
 f28:=Tryz.func221.trans (congrArg some (by kernel_rfl))
 f29:=Tryz.func222.trans (congrArg some (by kernel_rfl))
 f46:=⟨Tryz.f229.name,by decide,Tryz.func229.trans (congrArg some (by kernel_rfl))⟩
 f47:=Tryz.func230.trans (congrArg some (by kernel_rfl))
 f48:=Tryz.func231.trans (congrArg some (by kernel_rfl))
 f49:=⟨Tryz.f232.name,by decide,Tryz.func232.trans (congrArg some (by kernel_rfl))⟩
 f50:=⟨Tryz.f233.name,by decide,Tryz.func233.trans (congrArg some (by kernel_rfl))⟩
 f57:=⟨Tryz.f242.name,by decide,Tryz.func242.trans (congrArg some (by kernel_rfl))⟩
 t0:=Tryz.underlying0
 a0:=Tryz.isAgg0
 z0:=Tryz.sizeOf0
 v0:=Tryz.zeroValue0
 t3:=Tryz.underlying3
 a3:=Tryz.isAgg3
 z3:=Tryz.sizeOf3
 v3:=Tryz.zeroValue3
 t4:=Tryz.underlying4
 a4:=Tryz.isAgg4
 z4:=Tryz.sizeOf4
 v4:=Tryz.zeroValue4
 t5:=Tryz.underlying5
 a5:=Tryz.isAgg5
 z5:=Tryz.sizeOf5
 v5:=Tryz.zeroValue5
 t9:=Tryz.underlying9
 a9:=Tryz.isAgg9
 z9:=Tryz.sizeOf9
 v9:=Tryz.zeroValue9
 t22:=Tryz.underlying22
 a22:=Tryz.isAgg22
 z22:=Tryz.sizeOf22
 v22:=Tryz.zeroValue22
 t25:=Tryz.underlying152
 a25:=Tryz.isAgg152
 z25:=Tryz.sizeOf152
 v25:=Tryz.zeroValue152
 t39:=Tryz.underlying57
 a39:=Tryz.isAgg57
 z39:=Tryz.sizeOf57
 v39:=Tryz.zeroValue57
 t45:=Tryz.underlying183
 a45:=Tryz.isAgg183
 z45:=Tryz.sizeOf183
 v45:=Tryz.zeroValue183
 t46:=Tryz.underlying184
 a46:=Tryz.isAgg184
 z46:=Tryz.sizeOf184
 v46:=Tryz.zeroValue184
 t50:=Tryz.underlying188
 a50:=Tryz.isAgg188
 z50:=Tryz.sizeOf188
 v50:=Tryz.zeroValue188
 t53:=Tryz.underlying55
 a53:=Tryz.isAgg55
 z53:=Tryz.sizeOf55
 v53:=Tryz.zeroValue55
 t55:=Tryz.underlying168
 a55:=Tryz.isAgg168
 z55:=Tryz.sizeOf168
 v55:=Tryz.zeroValue168
 t66:=Tryz.underlying193
 a66:=Tryz.isAgg193
 z66:=Tryz.sizeOf193
 v66:=Tryz.zeroValue193
 t70:=Tryz.underlying197
 a70:=Tryz.isAgg197
 z70:=Tryz.sizeOf197
 v70:=Tryz.zeroValue197
 t76:=Tryz.underlying202
 a76:=Tryz.isAgg202
 z76:=Tryz.sizeOf202
 v76:=Tryz.zeroValue202
 t77:=Tryz.underlying124
 a77:=Tryz.isAgg124
 z77:=Tryz.sizeOf124
 v77:=Tryz.zeroValue124}
end Go.Proofs
namespace Go.Proofs.YtapmagaejigpnaaGreatDoor
open Go PI
set_option linter.unusedVariables false
set_option maxRecDepth 100000
noncomputable section
def LY:Nat:=224
noncomputable def wB {S:Type}:List PU→List (Box UU)→(Out UU→Option S)→Option S
 |[.int .u32 y0],[],κ=>nQ y0 fun r=>κ (.ret (kf r .none) [])
 |_,_,_=> .none
end
end Go.Proofs.YtapmagaejigpnaaGreatDoor
namespace Go.Proofs
open Go.Shelf Go.RowKit
set_option maxHeartbeats 1000000 in
theorem Tryz.tz32_core (x k idx:Nat) (w:World) (hx0:((x:Int)==0)=false)
  (key:bits BinOp.and IntKind.u32 (x:Int) (-(x:Int)%4294967296)*125613361%4294967296/134217728=(idx:Int))
  (hi:idx<32) (hk:k<32) (hcell:w.cell? ⟨0,idx,none⟩=some (.int .u8 k)):
  Calls Tryz.prog 244 #[.int .u32 x] w fun e w'=>e= .returned (.int .i64 k)∧w'=w:=by
 go_enter Tryz.func244,Tryz.ntmps244
 go_wp2_with (simp only [key])
 go_ret
 exact ⟨rfl,rfl⟩
theorem Tryz.tz32 (x:Nat) (hx:x<4294967296) (h0:x≠0) (w:World) (hT:TabAt 0 Lib.deBruijn32tab w):
  Calls Tryz.prog 244 #[.int .u32 x] w fun e w'=>e= .returned (.int .i64 (Lib.ctz 32 x))∧w'=w:=by
 obtain ⟨hlow,hk⟩:=Lib.lowest_bit 32 x h0 hx
 obtain ⟨hi,htab⟩:=Lib.deBruijn32_at _ hk
 have hcell:=hT _ hi
 rw [htab] at hcell
 exact Tryz.tz32_core x _ _ w (by simp;omega) (tz32_key x _ hx h0 hlow) hi hk hcell
end Go.Proofs
namespace Go.Proofs.YtapmagaejigpnaaGreatDoor
open Go Go.Shelf Go.RowKit
attribute [local go_sem] Oper.semAt_some
def dE (s:Nat):List Nat:=(List.range 24).filter s.testBit
theorem S8 (s:Nat) (h0:s≠0) (h:s<16777216):dE s=Lib.ctz 32 s::dE (s&&&(s-1))∧s&&&(s-1)<s:=by
 obtain ⟨m,hm,hk⟩:=Lib.ctzFrom_spec 32 s (by omega) (by omega)
 have e:Lib.ctz 32 s=Lib.ctzFrom 32 s:=by simp [Lib.ctz,h0]
 rw [e]
 generalize Lib.ctzFrom 32 s=t at hm hk
 have hs:s=2^(t+1)*m+2^t:=by
  rw [hm,Nat.mul_add,Nat.mul_one,Nat.pow_succ,←Nat.mul_assoc]
 have hp:0<2^t:=Nat.two_pow_pos t
 have hp2:2^(t+1)=2^t*2:=Nat.pow_succ 2 t
 have hs1:s-1=2^(t+1)*m+(2^t-1):=by omega
 have b1: ∀j,s.testBit j=if j<t+1 then decide (t=j) else m.testBit (j-(t+1)):=fun j=>by
  rw [hs,Nat.testBit_two_pow_mul_add _ (by omega),Nat.testBit_two_pow]
 have b2: ∀j,(s-1).testBit j=if j<t+1 then decide (j<t) else m.testBit (j-(t+1)):=fun j=>by
  rw [hs1,Nat.testBit_two_pow_mul_add _ (by omega),Nat.testBit_two_pow_sub_one]
 have b3: ∀j,(s&&&(s-1)).testBit j=if j<t+1 then false else m.testBit (j-(t+1)):=fun j=>by
  rw [Nat.testBit_and,b1,b2]
  by_cases hj:j<t+1
  ·rw [if_pos hj,if_pos hj,if_pos hj]
   by_cases ht:t=j
   ·rw [decide_eq_true ht,decide_eq_false (by omega)];rfl
   ·rw [decide_eq_false ht];rfl
  ·rw [if_neg hj,if_neg hj,if_neg hj,Bool.and_self]
 have b4:s&&&(s-1)=2^(t+1)*m:=by
  apply Nat.eq_of_testBit_eq
  intro j
  rw [b3]
  have:2^(t+1)*m=2^(t+1)*m+0:=rfl
  rw [this,Nat.testBit_two_pow_mul_add _ (by omega),Nat.zero_testBit]
 have ht:t<24:=by
  apply Nat.lt_of_not_le
  intro hle
  have:2^24≤2^t:=Nat.pow_le_pow_right (by decide) hle
  have h24:(2:Nat)^24=16777216:=by decide
  omega
 refine ⟨?_,by omega⟩
 unfold dE
 have hr:List.range 24=List.range t++(t::(List.range (23-t)).map (fun j=>t+1+j)):=by
  apply List.ext_getElem
  ·simp;omega
  ·intro i h1 h2
   simp only [List.getElem_range]
   by_cases hi:i<t
   ·rw [List.getElem_append_left (by simpa using hi)];simp
   ·rw [List.getElem_append_right (by simpa using hi)]
    simp only [List.length_range]
    by_cases he:i=t
    ·subst he;simp
    ·obtain ⟨d,rfl⟩: ∃d,i=t+1+d:=⟨i-t-1,by omega⟩
     simp only [show t+1+d-t=d+1 by omega,List.getElem_cons_succ,List.getElem_map,List.getElem_range]
 rw [hr,List.filter_append,List.filter_append]
 have f1:(List.range t).filter s.testBit=[]:=List.filter_eq_nil_iff.2 fun j hj=>by
  have:=List.mem_range.1 hj
  rw [b1,if_pos (by omega),decide_eq_false (by omega)];decide
 have f2:(List.range t).filter (s&&&(s-1)).testBit=[]:=List.filter_eq_nil_iff.2 fun j hj=>by
  have:=List.mem_range.1 hj
  rw [b3,if_pos (by omega)];decide
 rw [f1,f2,List.nil_append,List.nil_append,List.filter_cons_of_pos (by rw [b1,if_pos (by omega)];simp),List.filter_cons_of_neg (by rw [b3,if_pos (by omega)];decide)]
 congr 1
 apply List.filter_congr
 intro j hj
 obtain ⟨d,_,rfl⟩:=List.mem_map.1 hj
 rw [b1,b3,if_neg (by omega),if_neg (by omega)]
theorem S6:dE 0=[]:=List.filter_eq_nil_iff.2 fun j _=>by rw [Nat.zero_testBit];decide
theorem S7 (s:Nat):(dE s).length≤24:=by
 have:=List.length_filter_le s.testBit (List.range 24)
 simpa [dE] using this
theorem Mx (s:Int) (w:World):Calls Tryz.prog 234 #[.int .u32 s] w fun e w'=>e= .returned (.func (.func 243) #[] #[.pointer (some ⟨w.heap.size,0,none⟩)])∧w'=w.alloc (.cells #[.int .u32 s] 55):=by
 go_enter Tryz.func234,Tryz.ntmps234
 go_wp2
 go_ret
 exact ⟨rfl,rfl⟩
def vi:Code:=(Code.region 3 #[{dst:=some 4,op:=Op.assign (Operand.tmp 7),type:=3,pos:= "mask.go:57",after:= #[],guard:=none}] false)
def vj:Code:=(Code.block 1 (Code.region 4 #[{dst:=some 8,op:=Op.load 142 (Operand.tmp 3),type:=142,pos:= "mask.go:58",after:= #[],guard:=none},{dst:=some 9,op:=Op.move (Operand.tmp 4),type:=3,pos:= "mask.go:58",after:= #[],guard:=none},{dst:=some 10,op:=Op.buildSlice 142 1 #[(0,Operand.tmp 9)],type:=142,pos:= "mask.go:58",after:= #[{on:=1,ground:=Ground.data}],guard:=none},{dst:=some 11,op:=Op.call {callee:=Callee.builtin Builtin.append,args:= #[Operand.tmp 8,Operand.tmp 10],argTypes:= #[142,142]},type:=142,pos:= "mask.go:58",after:= #[{on:=0,ground:=Ground.data},{on:=2,ground:=Ground.data}],guard:=none},{dst:=none,op:=Op.store 142 (Operand.tmp 3) (Operand.tmp 11),type:=0,pos:= "mask.go:58",after:= #[{on:=3,ground:=Ground.data},{on:=3,ground:=Ground.chain},{on:=0,ground:=Ground.phase},{on:=1,ground:=Ground.phase},{on:=2,ground:=Ground.phase},{on:=3,ground:=Ground.phase}],guard:=none}] false))
def fE (fn:FuncId) (s0:Int) (fv:Value) (Bo D:Nat) (st:LoopState) (pend:Option Code):Loop:=
 {state:=st,pending:=pend,fn,tmps:= #[.int .u32 s0,undef,.slice none 0 0,.pointer (some ⟨Bo,0,none⟩),undef,.int .u32 s0,fv,undef,undef,undef,undef,undef,undef],params:= #[7],assign:=vi,body:=vj,defers:=D}
def dX (x:Nat):Value:= .int .i64 (x:Int)
structure LsAt (w0:World) (fn:FuncId) (s0:Int) (fv:Value) (Bo l D:Nat) (ss:List Nat) (W:World):Prop where
 box: ∃v,W.heap[Bo]? =some (.cells #[v] 142 (0,0))∧W.ownsRow w0.heap.size 3 1 v ss.length (ss.map dX)
 L:W.heap[l]? =some (.loop (fE fn s0 fv Bo D .ready none))
 K:W.heap[D]? =some (.deferred (some []))
 below:Below w0.heap.size w0 W
theorem lw (W:World) (l:Nat) (o:Obj):W.grownBy (W.putObj l o) (some l):=
 ⟨rfl,rfl,rfl,by simp,fun k _ hk=>World.putObj_heap_other (fun e=>hk (by rw [e]))⟩
theorem wX (W:World) (b:Nat) (v:Value):W.grownBy (W.setCell ⟨b,0,none⟩ v) (some b):=
 ⟨rfl,rfl,rfl,(KeepsWalks.setCell W _ v).size,fun k _ hk=>Below.heap_setCell _ _ _ k (fun e=>hk (by rw [e]))⟩
theorem iY {W:World} {base:Nat} {e:TypeId} {size:Nat} {v:Value} {k:Nat} {xs:List Value} (h:W.ownsRow base e size v k xs) {j:Nat} {o:Obj} (hj:W.heap[j]? =some o) (hno: ∀cur,o≠ .cells cur e (0,0)):
  v.ownBlock=none∨v.ownBlock≠some j:=by
 rcases h.2 with ⟨rfl,_⟩|⟨g,cap,cur,rfl,_,hgb,_⟩
 ·exact .inl rfl
 ·refine .inr fun e'=> ?_
  have:g=j:=by simpa [Value.ownBlock] using e'
  subst this;rw [hgb] at hj;cases hj;exact hno cur rfl
theorem jr {W:World} {B:Nat} {v:Value} {t:TypeId} (h:W.heap[B]? =some (.cells #[v] t (0,0))):W.cell? ⟨B,0,none⟩=some v∧W.frozen? ⟨B,0,none⟩=false:=by
 constructor<;>simp [World.cell?,World.frozen?,h]
theorem tC {W:World} {B:Nat} {v:Value} {t:TypeId} (v':Value) (h:W.heap[B]? =some (.cells #[v] t (0,0))):(W.setCell ⟨B,0,none⟩ v').heap[B]? =some (.cells #[v'] t (0,0)):=by
 obtain ⟨hlt,hk⟩:=Array.getElem?_eq_some_iff.1 h
 show (W.heap.modify B _)[B]? =_
 rw [Array.getElem?_eq_getElem (by rw [Array.size_modify];exact hlt),Array.getElem_modify_self,hk]
 rfl
theorem My:(Tryz.prog.info? 3).map (fun i=>(i.zero,i.size,i.bytes))=some (some (.int .i64 0),1,8):=by kernel_rfl
set_option maxRecDepth 100000 in
set_option maxHeartbeats 2000000 in
theorem OP (F:Fence) (m:Nat) (w0:World) (fn:FuncId) (hfn:F.fn fn) (s0:Int) (fv:Value) (Bo Bi l D:Nat) (hBl:Bo≠l) (hDl:D≠l) (hDB:D≠Bo) (hBiBo:Bi≠Bo) (hBil:Bi≠l) (h0B:w0.heap.size≤Bo) (h0l:w0.heap.size≤l)
  (ss:List Nat) (x:Nat) (c:Value) (W:World) (h:LsAt w0 fn s0 fv Bo l D ss W) (hi0:W.heap[Bi]? =some (.cells #[c] 55 (0,0))) (hlen:ss.length<24):
  YieldAt F m Tryz.prog l #[dX x] W fun e W'=>e= .returned (.bool true)∧LsAt w0 fn s0 fv Bo l D (ss++[x]) W'∧W'.heap[Bi]? =some (.cells #[c] 55 (0,0)):=by
 obtain ⟨i0,hi,hz0,hz1,hz2⟩:=info_parts My
 obtain ⟨v,hv,hrow⟩:=h.box
 refine ⟨fn,#[.int .u32 s0,undef,.slice none 0 0,.pointer (some ⟨Bo,0,none⟩),undef,.int .u32 s0,fv,.int .i64 (x:Int),undef,undef,undef,undef,undef],vi,vj,by simpa [fE,dX] using run_yield (P:=Tryz.prog) (args:= #[dX x]) h.L rfl,roundIn_of_wpIn hfn ?_⟩
 have hl:l<W.heap.size:=(Array.getElem?_eq_some_iff.1 h.L).1
 have hbr:=run_beginRound (P:=Tryz.prog) h.L rfl
 obtain ⟨W2,hW2⟩: ∃W2,W.putObj l (.loop {fE fn s0 fv Bo D .ready none with state:= .busy})=W2:=⟨_,rfl⟩
 rw [hW2] at hbr
 have hg2:W.grownBy W2 (some l):=by rw [←hW2];exact lw _ _ _
 have hv2:W2.heap[Bo]? =some (.cells #[v] 142 (0,0)):=by rw [←hW2];exact (World.putObj_heap_other hBl).trans hv
 have hi2:W2.heap[Bi]? =some (.cells #[c] 55 (0,0)):=by rw [←hW2];exact (World.putObj_heap_other hBil).trans hi0
 have hK2:W2.heap[D]? =some (.deferred (some [])):=by rw [←hW2];exact (World.putObj_heap_other hDl).trans h.K
 have hL2:W2.heap[l]? =some (.loop {fE fn s0 fv Bo D .ready none with state:= .busy}):=by rw [←hW2];exact World.putObj_heap_same hl
 have hrow2:W2.ownsRow w0.heap.size 3 1 v ss.length (ss.map dX):=hrow.kept hg2 (iY hrow h.L (fun cur e=>by cases e))
 have hb2:Below w0.heap.size w0 W2:=h.below.grown hg2 h.below.size (fun k e=>by cases e;exact h0l)
 obtain ⟨hc2,hf2⟩:=jr hv2
 have hBlt:Bo<W2.heap.size:=(Array.getElem?_eq_some_iff.1 hv2).1
 have hBilt:Bi<W2.heap.size:=(Array.getElem?_eq_some_iff.1 hi2).1
 have hl2:l<W2.heap.size:=(Array.getElem?_eq_some_iff.1 hL2).1
 have hDlt:D<W2.heap.size:=(Array.getElem?_eq_some_iff.1 hK2).1
 have ne_of: ∀ {j:Nat} {o:Obj},W2.heap[j]? =some o→(∀cur,o≠ .cells cur 3 (0,0))→some j≠v.ownBlock:=fun hj hno=>by
  rcases iY hrow2 hj hno with e|e
  ·rw [e];simp
  ·exact fun e'=>e e'.symm
 clear hW2
 have hml:24≤maxLen:=by unfold maxLen;omega
 unfold vi
 gi_wp2_with (rw [Oper.semAt_eq _ _ _ (fun c h=>by cases h)];go_simp;try go_bits)
 unfold vj
 gi_wp2_with (first
  |(gi_at_builtin;refine wpListIn_append_own _ rfl _ _ 142 rfl w0.heap.size 3 i0 (.int .i64 0) 1 8 Tryz.underlying142 hi hz0 hz1 hz2 rfl (by decide) _ _ _ rfl (hrow2.alloc _) ⟨W2.heap.size,0,none⟩ 1 1 [dX x] rfl rfl (cell_one_new _ _ _) (by simp [Value.oneCell',dX]) (by omega) (by omega) (by have:=hb2.size;simp;omega) ?_;intro v' w3 hown' hg3 hnil3
    have hv3:w3.heap[Bo]? =some (.cells #[v] 142 (0,0)):=(hg3.block Bo (by simp;omega) (ne_of hv2 (fun cur e=>by cases e))).trans ((Below.heap_alloc _ _ Bo hBlt).trans hv2)
    obtain ⟨hc3,hf3⟩:=jr hv3
    obtain ⟨g',cap',cur',rfl,hbase',hgb',hr1,hr2,hr3,hr4⟩: ∃g' cap' cur',v'= .slice (some ⟨g',0,none⟩) (ss.length+1) cap'∧w0.heap.size≤g'∧w3.heap[g']? =some (.cells cur' 3 (0,0))∧ss.length+1≤cap'∧cap'≤maxLen∧cur'.size=cap'*1∧cur'.toList.take ((ss.length+1)*1)=ss.map dX++[dX x]:=by
     rcases hown'.2 with ⟨_,h0⟩|h'
     ·exact absurd h0 (by omega)
     ·exact h'
    go_frame)
  |(rw [Oper.semAt_eq _ _ _ (fun c h=>by cases h)];go_simp;try go_bits))
 have hg3':(W2.alloc (.cells #[dX x] 3)).grownBy w3 v.ownBlock:=hg3
 have hL3:w3.heap[l]? =some (.loop {fE fn s0 fv Bo D .ready none with state:= .busy}):=(hg3'.block l (by simp;omega) (ne_of hL2 (fun cur e=>by cases e))).trans ((Below.heap_alloc _ _ l hl2).trans hL2)
 have hK3:w3.heap[D]? =some (.deferred (some [])):=(hg3'.block D (by simp;omega) (ne_of hK2 (fun cur e=>by cases e))).trans ((Below.heap_alloc _ _ D hDlt).trans hK2)
 have hi3:w3.heap[Bi]? =some (.cells #[c] 55 (0,0)):=(hg3'.block Bi (by simp;omega) (ne_of hi2 (fun cur e=>by cases e))).trans ((Below.heap_alloc _ _ Bi hBilt).trans hi2)
 obtain ⟨w4,hw4⟩: ∃w4,w3.setCell ⟨Bo,0,none⟩ (.slice (some ⟨g',0,none⟩) (ss.length+1) cap')=w4:=⟨_,rfl⟩
 rw [hw4]
 have hg4:w3.grownBy w4 (some Bo):=by rw [←hw4];exact wX _ _ _
 have hv4:w4.heap[Bo]? =some (.cells #[.slice (some ⟨g',0,none⟩) (ss.length+1) cap'] 142 (0,0)):=by rw [←hw4];exact tC _ hv3
 have hL4:w4.heap[l]? =some (.loop {fE fn s0 fv Bo D .ready none with state:= .busy}):=(hg4.block l (Array.getElem?_eq_some_iff.1 hL3).1 (fun e=>hBl (by cases e;rfl))).trans hL3
 have hK4:w4.heap[D]? =some (.deferred (some [])):=(hg4.block D (Array.getElem?_eq_some_iff.1 hK3).1 (fun e=>hDB (by cases e;rfl))).trans hK3
 have hi4:w4.heap[Bi]? =some (.cells #[c] 55 (0,0)):=(hg4.block Bi (Array.getElem?_eq_some_iff.1 hi3).1 (fun e=>hBiBo (by cases e;rfl))).trans hi3
 have hrow4:=hown'.kept hg4 (iY hown' hv3 (fun cur e=>by cases e))
 have hl4:l<w4.heap.size:=(Array.getElem?_eq_some_iff.1 hL4).1
 have hb3:Below w0.heap.size w0 w3:=(hb2.alloc hb2.size _).grown hg3' (by have:=hb2.size;simp;omega) (fun k e=>(hrow2.lt k e).1)
 have hb4:Below w0.heap.size w0 w4:=hb3.grown hg4 hb3.size (fun k e=>by cases e;exact h0B)
 clear hw4
 refine ⟨_,_,run_endRound none hL4,rfl,⟨⟨_,(World.putObj_heap_other hBl).trans hv4, ?_⟩,World.putObj_heap_same hl4,(World.putObj_heap_other hDl).trans hK4,hb4.grown (lw _ _ _) hb4.size (fun k e=>by cases e;exact h0l)⟩,(World.putObj_heap_other hBil).trans hi4⟩
 have:=hrow4.kept (lw w4 l (.loop {{fE fn s0 fv Bo D .ready none with state:= .busy} with state:=if (none:Option Code).isNone then .ready else .done,pending:=none})) (iY hrow4 hL4 (fun cur e=>by cases e))
 simpa using this
def vd (Bi:Nat) (w:World):Nat:=match w.cell? ⟨Bi,0,none⟩ with
 |some v=>(intOf v).toNat
 |none=>0
theorem AG {Bi:Nat} {w:World} {n:Nat} {t:TypeId} (h:w.heap[Bi]? =some (.cells #[.int .u32 (n:Int)] t (0,0))):vd Bi w=n:=by
 unfold vd;rw [(jr h).1];simp [intOf]
theorem Jv {w0 W:World} (hT:TabAt 0 Lib.deBruijn32tab w0) (hb:Below w0.heap.size w0 W):TabAt 0 Lib.deBruijn32tab W:=fun j hj=>by
 have h:=hT j hj
 have h0:0<w0.heap.size:=World.block_lt_of_cell? w0 ⟨0,j,none⟩ h
 exact (hb.cell (p:=⟨0,j,none⟩) h0).trans h
theorem JD (s:Int):bits .and .u32 s 16777215=(((BitVec.ofInt 32 s).toNat&&&16777215:Nat):Int):=by
 have hx:(BitVec.ofInt 32 s).toNat&&&16777215<2^32:=Nat.and_lt_two_pow _ (by omega)
 show IntKind.u32.wrap ((BitVec.ofInt 32 s&&&BitVec.ofInt 32 16777215).toNat:Int)=_
 rw [BitVec.toNat_and,wrap_u32',show (BitVec.ofInt 32 16777215).toNat=16777215 from by decide]
 omega
def fC (s:Int):Nat:=(BitVec.ofInt 32 s).toNat&&&16777215
theorem JE (s:Nat) (h0:s≠0) (h:s<4294967296):bits .and .u32 (s:Int) ((s:Int)-1)=((s&&&(s-1):Nat):Int):=by
 have:(s:Int)-1=((s-1:Nat):Int):=by omega
 rw [this];exact bits_and_u32_nat s (s-1) h (by omega)
set_option maxRecDepth 100000 in
set_option maxHeartbeats 2000000 in
theorem OO (F:Fence) (n:Nat) (h243:F.fn 243) (h244:F.fn 244) (hro:F.round=none) (hn:1≤n) (w0:World) (fn:FuncId) (hfn:F.fn fn) (s0:Int) (fv:Value) (Bo Bi l D:Nat) (hBl:Bo≠l) (hDl:D≠l) (hDB:D≠Bo) (hBiBo:Bi≠Bo) (hBil:Bi≠l) (hBiD:Bi≠D)
  (h0B:w0.heap.size≤Bo) (h0l:w0.heap.size≤l) (h0i:w0.heap.size≤Bi) (hT:TabAt 0 Lib.deBruijn32tab w0) (s:Int) (W:World) (h:LsAt w0 fn s0 fv Bo l D [] W) (hi0:W.heap[Bi]? =some (.cells #[.int .u32 s] 55 (0,0)))
  (htz: ∀ (x:Nat),x<4294967296→x≠0→ ∀W',TabAt 0 Lib.deBruijn32tab W'→CallsIn F (n-1) Tryz.prog 244 #[.int .u32 x] W' fun e w'=>e= .returned (.int .i64 (Lib.ctz 32 x))∧w'=W'):
  CallsIn F n Tryz.prog 243 #[.func (.yield l) #[] #[],.pointer (some ⟨Bi,0,none⟩)] W fun e W'=>(∃v,e= .returned v)∧LsAt w0 fn s0 fv Bo l D (dE (fC s)) W':=by
 obtain ⟨hc0,hf0⟩:=jr hi0
 have ha:bits .and .u32 s 16777215=((fC s:Nat):Int):=JD s
 have hsl:fC s<16777216:=Nat.lt_of_le_of_lt Nat.and_le_right (by decide)
 generalize fC s=q at ha hsl ⊢
 refine callsIn_of_wp Tryz.func243 rfl h243 ?_ hro
 simp only [Tryz.ntmps243,List.size_toArray,List.length_cons,List.length_nil,Nat.reduceAdd,Nat.reduceSub,Array.replicate_succ,Array.replicate_zero,List.push_toArray,List.append_toArray,List.nil_append,List.cons_append]
 gi_wp2
 have hi1:=tC (.int .u32 (q:Int)) hi0
 have hA1:LsAt w0 fn s0 fv Bo l D [] (W.setCell ⟨Bi,0,none⟩ (.int .u32 (q:Int))):=by
  obtain ⟨v,hv,hrow⟩:=h.box
  exact ⟨⟨v,(Below.heap_setCell _ _ _ Bo (fun e=>hBiBo e.symm)).trans hv,hrow.kept (wX _ _ _) (iY hrow hi0 (fun cur e=>by cases e))⟩,(Below.heap_setCell _ _ _ l (fun e=>hBil e.symm)).trans h.L,(Below.heap_setCell _ _ _ D (fun e=>hBiD e.symm)).trans h.K,h.below.setCell h0i _⟩
 gi_loopw [] (fun wr=> ∃ (pre:List Nat) (c:Nat),c<16777216∧pre++dE c=dE q∧LsAt w0 fn s0 fv Bo l D pre wr∧wr.heap[Bi]? =some (.cells #[.int .u32 (c:Int)] 55 (0,0)))
  (fun wr=>vd Bi wr)
 case atStart=>exact ⟨[],q,hsl,rfl,hA1,hi1⟩
 case round=>
  obtain ⟨pre,c,hc,hp,hA,hb⟩:=hrel
  clear hc0 hf0 ha hi1 hA1
  obtain ⟨hc1,hf1⟩:=jr hb
  by_cases hz:c=0
  ·subst hz
   rw [S6,List.append_nil] at hp
   gi_wp2
   go_end0
   exact ⟨⟨_,rfl⟩,hp▸hA⟩
  ·have hne:((c:Int)==0)=false:=by simp;omega
   have hne': ¬ ((c:Int)=0):=by omega
   have hstep:=S8 c hz hc
   have hpl:pre.length<24:=by
    have h1:=S7 q
    have h2:=congrArg List.length hp
    rw [hstep.1,List.length_append,List.length_cons] at h2
    omega
   obtain ⟨fn',tmps,assign,body,hy,hR⟩:=OP F (n-1) w0 fn hfn s0 fv Bo Bi l D hBl hDl hDB hBiBo hBil h0B h0l pre (Lib.ctz 32 c) (.int .u32 (c:Int)) wr hA hb hpl
   have hT1:=Jv hT hA.below
   have hap:=JE c hz (by omega)
   unfold dX at hy
   have hyH:Hid (Lib.ctz 32 c=Lib.ctz 32 c):=rfl
   gi_wp2_with (gi_at_call 244;refine (htz c (by omega) hz _ hT1).mono ?_;rintro e w' ⟨rfl,rfl⟩)
   refine hR.mono ?_
   rintro e W3 ⟨rfl,hA3,hb3⟩
   obtain ⟨hc3,hf3⟩:=jr hb3
   clear hc1 hf1 hA hy hR hT1
   gi_wp2
   have hb4:=tC (.int .u32 ((c&&&(c-1):Nat):Int)) hb3
   have hlt:=hstep.2
   go_roundw
   case rel=>
    refine ⟨pre++[Lib.ctz 32 c],c&&&(c-1),by omega, ?_, ?_,hb4⟩
    ·rw [←hp,hstep.1,List.append_assoc];rfl
    ·obtain ⟨v,hv,hrow⟩:=hA3.box
     exact ⟨⟨v,(Below.heap_setCell _ _ _ Bo (fun e=>hBiBo e.symm)).trans hv,hrow.kept (wX _ _ _) (iY hrow hb3 (fun cur e=>by cases e))⟩,(Below.heap_setCell _ _ _ l (fun e=>hBil e.symm)).trans hA3.L,(Below.heap_setCell _ _ _ D (fun e=>hBiD e.symm)).trans hA3.K,hA3.below.setCell h0i _⟩
   case measure=>rw [AG hb4,AG hb];exact hlt
set_option maxRecDepth 100000 in
set_option maxHeartbeats 2000000 in
theorem OM (F:Fence) (n:Nat) (h224:F.fn 224) (h234:F.fn 234) (h243:F.fn 243) (h244:F.fn 244) (hro:F.round=none) (hn:3≤n) (s:Int) (w:World) (hT:TabAt 0 Lib.deBruijn32tab w)
  (hin: ∀W,CallsIn F (n-1) Tryz.prog 234 #[.int .u32 s] W fun e w'=>e= .returned (.func (.func 243) #[] #[.pointer (some ⟨W.heap.size,0,none⟩)])∧w'=W.alloc (.cells #[.int .u32 s] 55))
  (htz: ∀ (x:Nat),x<4294967296→x≠0→ ∀W',TabAt 0 Lib.deBruijn32tab W'→CallsIn F (n-1-1) Tryz.prog 244 #[.int .u32 x] W' fun e w'=>e= .returned (.int .i64 (Lib.ctz 32 x))∧w'=W'):
  CallsIn F n Tryz.prog 224 #[.int .u32 s] w fun e w'=> ∃v:Value,e= .returned v∧w'.ownsRow w.heap.size 3 1 v (dE (fC s)).length ((dE (fC s)).map dX)∧Below w.heap.size w w':=by
 have h1:1≤n:=by omega
 have eg: ∀args w,(callFunc 243 args).run Tryz.prog w= .ok (.enter 243 args) w:=enters_of Tryz.func243 (by kernel_rfl) rfl
 refine callsIn_of_wp_marks Tryz.func224 rfl h224 ?_ hro
 simp only [Tryz.ntmps224,List.size_toArray,List.length_cons,List.length_nil,Nat.reduceAdd,Nat.reduceSub,Array.replicate_succ,Array.replicate_zero,List.push_toArray,List.append_toArray,List.nil_append,List.cons_append]
 gi_wp2_with (gi_at_call 234;refine (hin _).mono ?_;rintro e w' ⟨rfl,rfl⟩)
 refine wpIn_rangeFunc ?_
 intro fn hfn
 rw [hro]
 obtain ⟨fv,hfv⟩: ∃fv:Value,fv= .func (.func 243) #[] #[.pointer (some ⟨w.heap.size+1,0,none⟩)]:=⟨_,rfl⟩
 obtain ⟨W0,hW0⟩: ∃W0,(w.alloc (.cells #[.slice none 0 0] 142)).alloc (.cells #[.int .u32 s] 55)=W0:=⟨_,rfl⟩
 have hs0:W0.heap.size=w.heap.size+2:=by rw [←hW0];simp
 have hv0:W0.heap[w.heap.size]? =some (.cells #[.slice none 0 0] 142 (0,0)):=by rw [←hW0];exact (Below.heap_alloc _ _ _ (by simp)).trans (World.alloc_heap_new w _)
 have hi0:W0.heap[w.heap.size+1]? =some (.cells #[.int .u32 s] 55 (0,0)):=by
  rw [←hW0];have:=World.alloc_heap_new (w.alloc (.cells #[.slice none 0 0] 142)) (.cells #[.int .u32 s] 55);rwa [World.size_alloc] at this
 have hb0:Below w.heap.size w W0:=by rw [←hW0];exact ((Below.refl _ w).alloc (Nat.le_refl _) _).alloc (by simp) _
 rw [hW0]
 obtain ⟨W1,hW1⟩: ∃W1,(W0.alloc (.deferred (some []))).alloc (.loop (fE fn s fv w.heap.size W0.heap.size .ready none))=W1:=⟨_,rfl⟩
 have hold: ∀k,k<W0.heap.size→W1.heap[k]? =W0.heap[k]? :=fun k hk=>by
  rw [←hW1];exact (Below.heap_alloc _ _ k (by simp;omega)).trans (Below.heap_alloc _ _ k hk)
 have hb1:Below w.heap.size w W1:=by rw [←hW1];exact (hb0.alloc hb0.size _).alloc (by have:=hb0.size;simp;omega) _
 have hM:LsAt w fn s fv w.heap.size (W0.heap.size+1) W0.heap.size [] W1:=
  ⟨⟨_,(hold w.heap.size (by omega)).trans hv0,⟨rfl,.inl ⟨rfl,rfl⟩⟩⟩,
   by rw [←hW1];have:=World.alloc_heap_new (W0.alloc (.deferred (some []))) (.loop (fE fn s fv w.heap.size W0.heap.size .ready none));rwa [World.size_alloc] at this,
   by rw [←hW1];exact (Below.heap_alloc _ _ _ (by simp)).trans (World.alloc_heap_new W0 _),hb1⟩
 refine ⟨W0.heap.size+1,[{target:= .collected W0.heap.size,args:= #[]}],W1,{target:= .fn (.func 243) #[.pointer (some ⟨w.heap.size+1,0,none⟩)],args:= #[.func (.yield (W0.heap.size+1)) #[] #[]]},W1,243,
  #[.func (.yield (W0.heap.size + 1)) #[] #[]] ++ #[.pointer (some ⟨w.heap.size + 1, 0, none⟩)], W1, ?_, ?_, ?_, ?_, fun _ => h1, ?_⟩
 ·rw [←hW1,hfv];exact run_enterLoop_outer _ _ _ _ _
 ·simp [resolve,go_sem]
 ·intro f' hf';simp [Target.leads] at hf';subst hf';exact h243
 ·simp [invoke,go_sem,eg]
 ·refine (OO F (n-1) h243 h244 hro (by omega) w fn hfn s fv w.heap.size (w.heap.size+1) (W0.heap.size+1) W0.heap.size (by omega) (by omega) (by omega) (by omega) (by omega) (by omega) (Nat.le_refl _) (by omega) (by omega) hT s W1 hM ((hold _ (by omega)).trans hi0) htz).mono ?_
  rintro e W2 ⟨⟨v0,rfl⟩,h2⟩
  obtain ⟨v,hv,hrow⟩:=h2.box
  have hend:=run_endLoop (P:=Tryz.prog) h2.L (by simp [fE])
  obtain ⟨W3,hW3⟩: ∃W3,W2.putObj (W0.heap.size+1) (.loop {fE fn s fv w.heap.size W0.heap.size .ready none with state:= .exhausted})=W3:=⟨_,rfl⟩
  rw [hW3] at hend
  have hg3:W2.grownBy W3 (some (W0.heap.size+1)):=by rw [←hW3];exact lw _ _ _
  have hv3:W3.heap[w.heap.size]? =some (.cells #[v] 142 (0,0)):=by rw [←hW3];exact (World.putObj_heap_other (by omega)).trans hv
  have hK3:W3.heap[W0.heap.size]? =some (.deferred (some [])):=by rw [←hW3];exact (World.putObj_heap_other (by omega)).trans h2.K
  have hrow3:=hrow.kept hg3 (iY hrow h2.L (fun cur e=>by cases e))
  have hb3:Below w.heap.size w W3:=h2.below.grown hg3 h2.below.size (fun k e=>by cases e;omega)
  obtain ⟨hc3,hf3⟩:=jr hv3
  clear hW3
  refine ⟨none,W3,hend, ?_⟩
  clear hfv
  gi_wp2
  rw [show (w.heap.size+1+1)=W0.heap.size by omega]
  refine ⟨by simp,.inl ⟨_,_,rfl,run_takeDeferred hK3, ?_⟩⟩
  exact ⟨_,results_tmp rfl _ _ _,v,rfl,hrow3.kept (lw _ _ _) (iY hrow3 hK3 (fun cur e=>by cases e)),hb3.grown (lw _ _ _) hb3.size (fun k e=>by cases e;omega)⟩
end Go.Proofs.YtapmagaejigpnaaGreatDoor
