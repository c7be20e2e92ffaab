/- Part 3 of a proof: the sources, with their names and remarks, lie in wip/. -/
import Derived.Test.YtgajalidbabccaaGreatDoorX2
import Derived.Test.YtgajalidbabccaaGreatDoorRows
import Derived.ProofKit
import Derived.OpenShut
import Derived.ChangeArms
import Derived.Deep.Slices
import Derived.Shelf.SlSortCmp.NoneTotal
import Derived.Ground.SlsfProg
import Derived.Test.YtgajalidbabccaaGreatDoorProg
import Derived.Shelf.Spec.TrailingZeros
import Derived.RangeFuncBound
import Derived.RangeFuncLeaves
import Derived.RangeFuncOwn
import Derived.OwnWalkIn
import Derived.TacticsInMore
import Derived.LoopNIn
import Derived.LoopIn
import Derived.Maps.RangeWalk
import Derived.Maps.AppendAt
import Derived.Test.YtgajalidbabccaaGreatDoorCards
import Derived.Test.YtgajalidbabccaaGreatDoorTie
import Derived.WalkKit
import Derived.ReadAgain
import Derived.Deep.DeepHandedRow
import Derived.Lib.LaidTab
import Derived.KernelRfl
open Array renaming getD_eq_getD_getElem?→jT,getElem?_eq_some_iff→jt
open Bool renaming and_eq_true→ak,not_eq_true'→j9,not_false→dr,not_true→dT
open ByteArray renaming empty→au
open Eq renaming trans→aq
open Go.IntKind renaming wrap→af
open Int renaming toNat_natCast→ir
open List renaming all_eq_true→d7,append_nil→eZ,getElem?_eq_getElem→fM,getElem?_eq_some_iff→it,length_cons→dv,map_cons→jc,mem_append→er,mem_cons→eb,mem_map→dI,nil_append→fq,range→fY
open Nat renaming beq→aD,ble→dK,le_refl→eh,le_trans→fN,zero_add→jd
open Option renaming bind→ag,bind_some→aV
set_option linter.unusedVariables false
set_option linter.unusedSimpArgs false
namespace Go.Proofs.YtgajalidbabccaaGreatDoor
open Go PI
abbrev M24:Nat:=16777215
theorem OT {n:Nat} (h:n<24):2^n<4294967296:=Nat.lt_of_lt_of_le (Nat.pow_lt_pow_right (by decide) h) (by decide)
theorem FH (n:Nat):(2:Int)^n=((2^n:Nat):Int):=by simp
theorem GH (m n:Nat):Int.fdiv (m:Int) ((2:Int)^n)=((m/2^n:Nat):Int):=by
 grind
variable {S:Type} {k:Nat}
theorem D7 (hk:Fu k) (i:Int) (J:Bool->OS S):rH k i J=J (decide (0<=i/\i<24)):=by
 grind [rH,eJ]
theorem ajL (hk:Fu k) {m:Nat} (hm:m<4294967296) (J:Bool->OS S):tP k (m:Int) J=J (decide (m<16777216)):=by
 simp only [tP]
 rw [show (16777215:Int)=((16777215:Nat):Int) from rfl,Fo hm (by decide)]
 congr 1
 rw [Bool.eq_iff_iff]
 simp only [beq_iff_eq,decide_eq_true_eq]
 have key:o_ m 16777215=0↔m<16777216:=by
  constructor
  ·intro h
   apply Nat.lt_pow_two_of_testBit (n:=24)
   intro i hi
   have h2:=uV m 16777215 i
   rw [h,Nat.zero_testBit] at h2
   have:(16777215:Nat).testBit i=false:=Nat.testBit_lt_two_pow (Nat.lt_of_lt_of_le (by decide:16777215<2^24) (Nat.pow_le_pow_right (by decide) hi))
   grind
  ·intro h
   apply Nat.eq_of_testBit_eq
   intro i
   rw [uV,Nat.zero_testBit]
   by_cases hi:i<24
   ·have:(16777215:Nat).testBit i=true:=by
     rw [show (16777215:Nat)=2^24-1 from rfl,Nat.testBit_two_pow_sub_one];grind
    grind
   ·have h2:(2:Nat)^24<=2^i:=Nat.pow_le_pow_right (by decide) (by omega)
    grind [Nat.testBit_lt_two_pow]
 omega
theorem ajJ (hk:Fu k) {m:Nat} (hm:m<4294967296) (i:Int) (J:Bool->OS S):lW k (m:Int) i J=J (decide (0<=i/\i<24)&&m.testBit i.toNat):=by
 simp only [lW,D7 hk,ap hk]
 by_cases h:0<=i/\i<24
 ·obtain ⟨n,rfl⟩: ∃n:Nat,i=n:=⟨i.toNat,by omega⟩
  have hn:n<24:=by omega
  rw [decide_eq_true h,al,Bool.true_and,nf n (by omega),oi _ (by omega)]
  congr 1
  rw [ir,Nat.min_eq_left (by omega),GH,show (1:Int)=((1:Nat):Int) from rfl,pF (Nat.lt_of_le_of_lt (Nat.div_le_self _ _) hm) (by decide)]
  grind
 grind [ae]
theorem ajM (hk:Fu k) {m:Nat} (hm:m<4294967296) (i:Int) (J:Int->OS S):nx k (m:Int) i J=J (if 0<=i/\i<24 then (((m&&&M24)|||2^i.toNat:Nat):Int) else ((m&&&M24:Nat):Int)):=by
 simp only [nx,D7 hk,ap hk]
 have hand:cP .and .u32 (m:Int) 16777215=((m&&&M24:Nat):Int):=pF hm (by decide:(16777215:Nat)<4294967296)
 have hlt:m&&&M24<4294967296:=zH (n:=32) hm
 rw [hand]
 by_cases h:0<=i/\i<24
 ·obtain ⟨n,rfl⟩: ∃n:Nat,i=n:=⟨i.toNat,by omega⟩
  grind [nf,ae,oi,ir,qV,OT,zK]
 ·rw [decide_eq_false h,if_neg h];rfl
theorem ajN (hk:Fu k) {m:Nat} (hm:m<4294967296) (i:Int) (J:Int->OS S):oy k (m:Int) i J=J (if 0<=i/\i<24 then ((o_ (m&&&M24) (2^i.toNat):Nat):Int) else ((m&&&M24:Nat):Int)):=by
 simp only [oy,D7 hk,ap hk]
 have hand:cP .and .u32 (m:Int) 16777215=((m&&&M24:Nat):Int):=pF hm (by decide:(16777215:Nat)<4294967296)
 have hlt:m&&&M24<4294967296:=zH (n:=32) hm
 rw [hand]
 by_cases h:0<=i/\i<24
 ·grind [nf,ae,oi,ir,qV,OT,Fo]
 ·rw [decide_eq_false h,if_neg h];rfl
theorem SF (hk:Fu k) (n:Nat) (hn:n<18446744073709551616) (J:Int->OS S):tQ k (n:Int) J=J ((2^min n 24-1:Nat):Int):=by
 simp only [tQ]
 have e:(if (24:Int)<(n:Int) then (24:Int) else (n:Int))=((min n 24:Nat):Int):=by
  omega
 rw [e,nf _ (by omega),oi _ (by omega),ir]
 congr 1
 generalize hq:min n 24=q
 have hq24:q<=24:=by omega
 rw [Nat.min_eq_left (by omega),Int.one_mul,FH]
 have h1:2^q<=2^24:=Nat.pow_le_pow_right (by decide) hq24
 grind [nf,qV]
def mb (m n:Nat):Nat:=(m&&&M24)&&&(2^min n 24-1)
def gg (m n:Nat):Nat:=o_ (m&&&M24) (2^min n 24-1)
def lk (m n b:Nat):Nat×Nat:=
 if gg m n=0 then (mb m n,0) else if 24<=b then (0,10) else if gg m n*2^b>16777215 then (0,10) else (mb m n|||(gg m n*2^b),0)
theorem ajK (hk:Fu k) {m:Nat} (hm:m<4294967296) (n b:Nat) (hn:n<9223372036854775808) (hb:b<9223372036854775808) (J:Int×Int->OS S):
  pO k (m:Int) (n:Int) (b:Int) J=J (((lk m n b).1:Int),((lk m n b).2:Int)):=by
 have hand:cP .and .u32 (m:Int) 16777215=((m&&&M24:Nat):Int):=pF hm (by decide:(16777215:Nat)<4294967296)
 have hlt:m&&&M24<16777216:=Nat.lt_of_le_of_lt Nat.and_le_right (by decide)
 have hbl:2^min n 24-1<4294967296:=by
  have:2^min n 24<=2^24:=Nat.pow_le_pow_right (by decide) (by omega)
  omega
 have hhi:gg m n<16777216:=HH (n:=24) hlt
 have hlow:cP .and .u32 ((m&&&M24:Nat):Int) ((2^min n 24-1:Nat):Int)=((mb m n:Nat):Int):=pF (by omega) hbl
 have hhigh:cP .andNot .u32 ((m&&&M24:Nat):Int) ((2^min n 24-1:Nat):Int)=((gg m n:Nat):Int):=Fo (by omega) hbl
 simp only [pO]
 rw [eJ,eJ,if_neg (by omega),if_neg (by omega)]
 simp only [SF hk n (by omega),ap hk,hand,hlow,hhigh]
 rw [nf _ (by omega)]
 unfold lk
 by_cases h0:gg m n=0
 ·grind [al]
 ·rw [if_neg h0]
  have hb0:(((gg m n:Nat):Int)==0)=false:=by
   grind
  simp only [hb0,ae,eJ]
  by_cases h24:24<=b
  ·grind
  ·rw [if_neg (by omega),if_neg h24,nf b (by omega),oi _ (by omega),ir,Nat.min_eq_left (by omega),FH]
   have hp:2^b<=2^23:=Nat.pow_le_pow_right (by decide) (by omega)
   have h23:(2:Nat)^23=8388608:=by decide
   have hmul:gg m n*2^b<18446744073709551616:=by
    have:=Nat.mul_le_mul (Nat.le_of_lt hhi) hp
    omega
   have ec:((gg m n:Nat):Int)*((2^b:Nat):Int)=((gg m n*2^b:Nat):Int):=by simp
   rw [ec,nf _ hmul]
   by_cases hg:gg m n*2^b>16777215
   ·grind
   ·rw [if_neg (by omega),if_neg hg]
    rw [qV _ (by omega),oi _ (by omega),zK (by grind [mb,Nat.and_le_left]) (by omega)]
    rfl
set_option maxRecDepth 20000
variable {S:Type} {k:Nat}
def qH (l:List Nat):Nat:=(l.map (2^ ·)).sum
theorem XS {x a:Nat} (h:x.testBit a=false):x+2^a=x|||2^a:=by
 have h1:x=2^(a+1)*(x/2^(a+1))+x%2^(a+1):=(Nat.div_add_mod _ _).symm
 have hlt:x%2^(a+1)<2^a:=by
  have hb:(x%2^(a+1)).testBit a=false:=by grind
  grind [Nat.lt_pow_two_of_testBit,Nat.testBit_lt_two_pow]
 generalize x/2^(a+1)=q at h1
 generalize x%2^(a+1)=r at h1 hlt
 have hp:(2:Nat)^(a+1)=2^a*2:=Nat.pow_succ 2 a
 have e1:2^a+r=2^a|||r:=by
  have:=Nat.two_pow_add_eq_or_of_lt hlt 1
  grind
 have e2:x=2^(a+1)*q|||r:=by grind [Nat.two_pow_add_eq_or_of_lt]
 grind [Nat.two_pow_add_eq_or_of_lt]
theorem I5: ∀ (l:List Nat),l.Nodup-> ∀j,(qH l).testBit j=decide (j∈l):=by
 intro l
 induction l with
 |nil=>grind [qH]
 |cons a l ih=>
  intro hn j
  have hn':=List.nodup_cons.1 hn
  have ha:(qH l).testBit a=false:=by grind
  have e:qH (a::l)=qH l|||2^a:=by
   grind [XS,qH]
  grind
def ke (m:Nat):List Nat:=(fY 24).filter m.testBit
theorem Fw (m:Nat):(ke m).Nodup:=List.nodup_range.filter _
theorem mem_bitsN {m j:Nat}:j∈ke m↔j<24/\m.testBit j=true:=by simp [ke]
theorem YA (m:Nat):(ke m).length<=24:=by
 grind [ke]
theorem pH (j:Nat):M24.testBit j=decide (j<24):=by
 rw [show M24=2^24-1 from rfl,Nat.testBit_two_pow_sub_one]
def ints (l:List Nat):List Int:=l.map Int.ofNat
theorem acA (l:List Nat):(ints l).length=l.length:=by simp [ints]
theorem ab8 {α:Type} (p r:List α) (x:α):ao (p++x::r) (p.length:Int)=some x:=by simp [ao]
theorem rx {m:Nat} (h:m<16777216) {j:Nat} (hj:m.testBit j=true):j<24:=by
 apply Classical.byContradiction
 intro hn
 have:m<2^j:=Nat.lt_of_lt_of_le h (Nat.pow_le_pow_right (n:=2) (i:=24) (j:=j) (by decide) (by omega))
 grind [Nat.testBit_lt_two_pow]
theorem Nd (m:Nat):m<16777216↔ ∀j,m.testBit j=true->j<24:=by
 constructor
 ·intro h j hj;exact rx h hj
 ·intro h
  apply Nat.lt_pow_two_of_testBit (n:=24)
  grind
def il (n b x:Nat):Nat:=if x<n then x else x+b
theorem Fv (m n j:Nat):(mb m n).testBit j=(m.testBit j&&decide (j<n/\j<24)):=by
 grind [mb,pH]
theorem KP (m n j:Nat):(gg m n).testBit j=(m.testBit j&&decide (n<=j/\j<24)):=by
 grind [gg,uV,pH]
theorem M3 (m n b:Nat):lk m n b=if (∃x∈ke m,n<=x/\24<=x+b) then (0,10) else (qH ((ke m).map (il n b)),0):=by
 have hnd:((ke m).map (il n b)).Nodup:=by
  grind [il,Fw]
 have hset: ∀j,(qH ((ke m).map (il n b))).testBit j=((mb m n).testBit j||(decide (b<=j)&&(gg m n).testBit (j-b))):=by
  intro j
  rw [I5 _ hnd,Fv,KP,Bool.eq_iff_iff]
  simp only [decide_eq_true_eq,dI,mem_bitsN,Bool.or_eq_true,ak]
  grind [il]
 have hhigh: ∀j,(gg m n).testBit j=true↔(j∈ke m/\n<=j):=by
  grind [KP,mem_bitsN]
 unfold lk
 by_cases h0:gg m n=0
 ·rw [if_pos h0,if_neg]
  ·congr 1
   apply Nat.eq_of_testBit_eq
   grind
  grind
 ·rw [if_neg h0]
  have hex: ∃j,(gg m n).testBit j=true:=by
   apply Classical.byContradiction
   intro hne
   apply h0
   apply Nat.eq_of_testBit_eq
   grind
  have hmul: ∀j,(gg m n*2^b).testBit j=(decide (b<=j)&&(gg m n).testBit (j-b)):=by
   grind
  by_cases h24:24<=b
  ·rw [if_pos h24]
   obtain ⟨j,hj⟩:=hex
   have:=(hhigh j).1 hj
   rw [if_pos ⟨j,this.1,this.2,by omega⟩]
  ·rw [if_neg h24]
   have hlt:=Nd (gg m n*2^b)
   by_cases hg:gg m n*2^b>16777215
   ·rw [if_pos hg,if_pos]
    grind
   ·rw [if_neg hg,if_neg]
    ·congr 1
     apply Nat.eq_of_testBit_eq
     grind
    ·rintro ⟨x,h1,h2,h3⟩
     have hx:(gg m n*2^b).testBit (x+b)=true:=by
      simp_all
     grind
def pU (m:Nat) (i:Int):Nat:=if 0<=i/\i<24 then mb m i.toNat|||((m&&&M24)/2^(i.toNat+1)*2^i.toNat) else m&&&M24
theorem ajI (hk:Fu k) {m:Nat} (hm:m<4294967296) (i:Int) (J:Int->OS S):tO k (m:Int) i J=J ((pU m i:Nat):Int):=by
 simp only [tO,D7 hk,ap hk]
 have hand:cP .and .u32 (m:Int) 16777215=((m&&&M24:Nat):Int):=pF hm (by decide:(16777215:Nat)<4294967296)
 have hlt:m&&&M24<16777216:=Nat.lt_of_le_of_lt Nat.and_le_right (by decide)
 rw [hand]
 unfold pU
 by_cases h:0<=i/\i<24
 ·obtain ⟨n,rfl⟩: ∃n:Nat,i=n:=⟨i.toNat,by omega⟩
  have hn:n<24:=by omega
  rw [decide_eq_true h,if_pos h,dT,ae,SF hk n (by omega)]
  have e1:(n:Int)+1=((n+1:Nat):Int):=by simp
  rw [TH (by omega) (by omega),e1,nf _ (by omega),nf _ (by omega),oi _ (by omega),oi _ (by omega)]
  rw [ir,ir,Nat.min_eq_left (show n+1<=32 by omega),Nat.min_eq_left (show n<=32 by omega),GH,FH]
  have hb:2^min n 24-1<4294967296:=by
   have:2^min n 24<=2^24:=Nat.pow_le_pow_right (by decide) (by omega)
   omega
  have hq:(m&&&M24)/2^(n+1)*2^n<=m&&&M24:=by
   have h1:(m&&&M24)/2^(n+1)*2^(n+1)<=m&&&M24:=Nat.div_mul_le_self _ _
   have h2:2^n<=2^(n+1):=Nat.pow_le_pow_right (by decide) (by omega)
   exact fN (Nat.mul_le_mul_left _ h2) h1
  have ec:((((m&&&M24)/2^(n+1):Nat):Int))*((2^n:Nat):Int)=(((m&&&M24)/2^(n+1)*2^n:Nat):Int):=by simp
  rw [ec,qV _ (by omega),pF (by omega) hb]
  have hlow:mb m n<4294967296:=by grind [mb,Nat.and_le_left]
  show J (cP .or .u32 ((mb m n:Nat):Int) _)=_
  rw [zK hlow (by omega)]
 ·rw [decide_eq_false h,if_neg h];rfl
def aR (n:Int):Prop:= -9223372036854775808<=n/\n<9223372036854775808
def vl (s:Int):Bool:=decide (s<16777216)
def iY (s i:Int):Bool:=decide (0<=i/\i<24)&&s.toNat.testBit i.toNat
def nd (s i:Int):Int:=if 0<=i/\i<24 then (((s.toNat&&&M24)|||2^i.toNat:Nat):Int) else ((s.toNat&&&M24:Nat):Int)
def jQ (s i:Int):Int:=if 0<=i/\i<24 then ((o_ (s.toNat&&&M24) (2^i.toNat):Nat):Int) else ((s.toNat&&&M24:Nat):Int)
def mK (s:Int):List Int:=ints (ke s.toNat)
def fh (s i b:Int):Int×Int:=if i<0\/b<0 then (0,2) else (((lk s.toNat i.toNat b.toNat).1:Int),((lk s.toNat i.toNat b.toNat).2:Int))
def pV (s i:Int):Int:=((pU s.toNat i:Nat):Int)
theorem ahU (m:Nat):vl (m:Int)=decide (m<16777216):=by
 grind [vl]
theorem RQ (hk:Fu k) {s:Int} (h:U32 s) (J:Bool->OS S):tP k s J=J (vl s):=by
 obtain ⟨m,hm,rfl⟩:=h.nat
 rw [ajL hk hm,ahU]
theorem ti (hk:Fu k) {s:Int} (h:U32 s) (i:Int) (J:Bool->OS S):lW k s i J=J (iY s i):=by
 obtain ⟨m,hm,rfl⟩:=h.nat
 rw [ajJ hk hm];rfl
theorem y7 (hk:Fu k) {s:Int} (h:U32 s) (i:Int) (J:Int->OS S):nx k s i J=J (nd s i):=by
 obtain ⟨m,hm,rfl⟩:=h.nat
 rw [ajM hk hm];rfl
theorem y8 (hk:Fu k) {s:Int} (h:U32 s) (i:Int) (J:Int->OS S):oy k s i J=J (jQ s i):=by
 obtain ⟨m,hm,rfl⟩:=h.nat
 rw [ajN hk hm];rfl
theorem Oi {s:Int} (h:U32 s):uT s=mK s:=by
 obtain ⟨m,hm,rfl⟩:=h.nat
 have: ∀i:Nat,(BitVec.ofInt 32 (m:Int)).getLsbD i=m.testBit i:=by
  grind
 simp_all [uT,mK,ints,ke]
theorem RO (hk:Fu k) {s i b:Int} (h:U32 s) (hi:aR i) (hb:aR b) (J:Int×Int->OS S):pO k s i b J=J (fh s i b):=by
 obtain ⟨m,hm,rfl⟩:=h.nat
 by_cases h1:i<0
 ·grind [pO,eJ,fh]
 by_cases h2:b<0
 ·grind [pO,eJ,fh]
 obtain ⟨n,rfl⟩: ∃n:Nat,i=n:=⟨i.toNat,by omega⟩
 obtain ⟨c,rfl⟩: ∃n:Nat,b=n:=⟨b.toNat,by omega⟩
 have:=hi.2;have:=hb.2
 grind [ajK,fh]
theorem RN (hk:Fu k) {s:Int} (h:U32 s) (i:Int) (J:Int->OS S):tO k s i J=J (pV s i):=by
 obtain ⟨m,hm,rfl⟩:=h.nat
 rw [ajI hk hm];rfl
theorem FM (hk:Fu k) (J:Int->OS S):pN k 0 J=J 0:=by
 simp only [pN,ap hk];rfl
theorem FO (hk:Fu k) (J:Int->OS S): ∀n:Nat,n<24->pN k ((2^n:Nat):Int) J=J 1:=by
 simp only [pN,ap hk]
 intro n hn
 match n,hn with
 |0,_|1,_|2,_|3,_|4,_|5,_|6,_|7,_|8,_|9,_|10,_|11,_|12,_|13,_|14,_|15,_|16,_|17,_|18,_|19,_|20,_|21,_|22,_|23,_=>rfl
 |n+24,h=>omega
theorem Kl (i:Int):nd 0 i=if 0<=i/\i<24 then ((2^i.toNat:Nat):Int) else 0:=by
 grind [nd]
theorem aix (hk:Fu k) (i:Int) (J:Bool->OS S):Bb k i J=J (decide (0<=i/\i<24)):=by
 simp only [Bb,ap hk,y7 hk (s:=0) ⟨by omega,by omega⟩,Kl]
 grind [FO,FM]
theorem R1 (hk:Fu k) (i:Int) (J:Bool->OS S):wW k i J=J (decide (0<=i/\i<24)):=by
 simp only [wW,ap hk,y7 hk (s:=0) ⟨by omega,by omega⟩,Kl]
 grind [FO,FM]
theorem U32.of {n:Nat} (h:n<4294967296):U32 (n:Int):=⟨by omega,by omega⟩
theorem Tp {s i:Int}:0<=nd s i/\nd s i<16777216:=by
 have h1:s.toNat&&&M24<16777216:=Nat.lt_of_le_of_lt Nat.and_le_right (by decide)
 unfold nd
 split
 ·next h=>
  have hp:2^i.toNat<2^24:=Nat.pow_lt_pow_right (by decide) (by omega)
  have:=Nat.or_lt_two_pow (n:=24) h1 hp
  omega
 ·omega
theorem Tr {s i:Int}:0<=jQ s i/\jQ s i<16777216:=by
 have h1:s.toNat&&&M24<16777216:=Nat.lt_of_le_of_lt Nat.and_le_right (by decide)
 unfold jQ
 split
 ·have:=HH (n:=24) (b:=2^i.toNat) h1
  omega
 ·omega
theorem Zh (m:Nat) (i:Int):pU m i<16777216:=by
 have h1:m&&&M24<16777216:=Nat.lt_of_le_of_lt Nat.and_le_right (by decide)
 unfold pU
 split
 ·rw [Nd]
  grind [Fv,pH]
 omega
deriving instance DecidableEq for Cl
theorem Cl.ext' {a b:Cl} (h1:a.pos=b.pos) (h2:a.neg=b.neg):a=b:=by cases a<;>simp_all
theorem AN (a b:Cl):((a.pos==b.pos)&&((a.neg==b.neg)&&true))=decide (a=b):=by
 grind [Cl.ext']
def cO (c:Cl):Prop:=U32 c.pos/\U32 c.neg
def av (f:LC):Prop:= ∀c∈f,cO c
def mX (c:Cl):Bool:=vl c.pos&&vl c.neg
def RC (c:Cl):Prop:=(0<=c.pos/\c.pos<16777216)/\(0<=c.neg/\c.neg<16777216)
theorem RC.ok {c:Cl} (h:RC c):cO c:=⟨⟨h.1.1,by have:=h.1.2;omega⟩,⟨h.2.1,by have:=h.2.2;omega⟩⟩
theorem IC {c:Cl} (h:cO c):mX c=true↔RC c:=by
 unfold mX vl RC
 simp only [ak,decide_eq_true_eq]
 have h1:=h.1.1;have h2:=h.2.1
 omega
def lr (a b:Int):Int:=((a.toNat|||b.toNat:Nat):Int)
theorem yC {a b:Int} (ha:U32 a) (hb:U32 b):cP .or .u32 a b=lr a b:=by
 obtain ⟨m,hm,rfl⟩:=ha.nat;obtain ⟨n,hn,rfl⟩:=hb.nat
 rw [zK hm hn];rfl
def jJ (a b:Cl):Cl:=⟨lr a.pos b.pos,lr a.neg b.neg⟩
def jf (a b:Cl):Bool:=decide (jJ a b=a)
def fC (c:Cl):Bool:= !decide (c.pos.toNat&&&c.neg.toNat=0)
theorem C7 {a b:Int} (ha:U32 a) (hb:U32 b):U32 (lr a b):=by
 obtain ⟨m,hm,rfl⟩:=ha.nat;obtain ⟨n,hn,rfl⟩:=hb.nat
 exact U32.of (Nat.or_lt_two_pow (n:=32) hm hn)
theorem C1 {a b:Cl} (ha:cO a) (hb:cO b):cO (jJ a b):=⟨C7 ha.1 hb.1,C7 ha.2 hb.2⟩
theorem RY (hk:Fu k) {c:Cl} (h:cO c) (J:Bool->OS S):wP k c J=J (mX c):=by
 simp only [wP,ap hk,RQ hk h.1,RQ hk h.2,mX,kH]
 grind
theorem IV (hk:Fu k) {a b:Cl} (ha:cO a) (hb:cO b) (J:Cl->OS S):tB k a b J=J (jJ a b):=by
 simp only [tB,yC ha.1 hb.1,yC ha.2 hb.2];rfl
theorem ais (hk:Fu k) {a b:Cl} (ha:cO a) (hb:cO b) (J:Bool->OS S):A8 k a b J=J (jf a b):=by
 simp only [A8,ap hk,IV hk ha hb,AN];rfl
theorem RW (hk:Fu k) {c:Cl} (h:cO c) (J:Bool->OS S):wO k c J=J (fC c):=by
 obtain ⟨p,n⟩:=c
 obtain ⟨m,hm,rfl⟩:=h.1.nat;obtain ⟨n,hn,rfl⟩:=h.2.nat
 simp only [wO,pF hm hn,fC,ir]
 congr 2
 grind
theorem To (s:Int) (x:Nat) (hx:x<24) (j:Nat):(nd s (x:Int)).toNat.testBit j=((s.toNat.testBit j&&decide (j<24))||decide (j=x)):=by
 unfold nd
 rw [if_pos (by omega),ir,ir,Nat.testBit_or,Nat.testBit_and,pH,Nat.testBit_two_pow,Bool.eq_iff_iff]
 grind
def ig (c:Cl) (i b:Int):Cl×Int:=
 if mX c then
  if (fh c.pos i b).2=0 then if (fh c.neg i b).2=0 then (⟨(fh c.pos i b).1,(fh c.neg i b).1⟩,0) else (⟨0,0⟩,(fh c.neg i b).2)
  else (⟨0,0⟩,(fh c.pos i b).2)
 else (⟨0,0⟩,2)
theorem ait (hk:Fu k) {c:Cl} {i b:Int} (h:cO c) (hi:aR i) (hb:aR b) (J:Cl×Int->OS S):Ba k c i b J=J (ig c i b):=by
 simp only [Ba,ap hk,RY hk h,RO hk h.1 hi hb,RO hk h.2 hi hb,kH,ig,j9,beq_eq_false_iff_ne]
 grind
def mc (a b:Cl):Prop:=a.pos<b.pos\/(a.pos=b.pos/\a.neg<b.neg)
def Hh (a b:Cl):Bool:=decide (a.pos<b.pos)||(a.pos==b.pos&&decide (a.neg<b.neg))
theorem aeX {a b:Cl}:Hh a b=true↔mc a b:=by unfold Hh mc;simp
theorem Ng {a b c:Cl} (h:mc a b) (h':mc b c):mc a c:=by grind [mc]
theorem Nf {a:Cl} (h:mc a a):False:=by grind [mc]
theorem aft (a b:Cl):mc a b\/a=b\/mc b a:=by
 grind [Cl.ext',mc]
abbrev pD (l:LC):Prop:=l.Pairwise mc
theorem I8: ∀ {a b:LC},pD a->pD b->(∀c,c∈a↔c∈b)->a=b:=by
 intro a
 induction a with
 |nil=>
  intro b _ _ h
  cases b with
  |nil=>rfl
  |cons y b=>exact absurd ((h y).2 (by simp)) (by simp)
 |cons x a ih=>
  intro b ha hb h
  cases b with
  |nil=>grind
  |cons y b=>
   have ha':=List.pairwise_cons.1 ha;have hb':=List.pairwise_cons.1 hb
   have hxy:x=y:=by
    rcases eb.1 ((h x).1 (by simp)) with h1|h1
    ·exact h1
    ·rcases eb.1 ((h y).2 (by simp)) with h2|h2<;>grind [Ng,Nf]
   grind [Nf]
def oK (x:Cl):LC->LC
 |[]=>[x]
 |y::r=>if Hh y x then y::oK x r else if y=x then y::r else x::y::r
theorem Ol {x c:Cl}: ∀ {l:LC},c∈oK x l↔c=x\/c∈l:=by
 intro l
 induction l<;>grind [oK]
theorem acy {x:Cl}: ∀ {l:LC},pD l->pD (oK x l):=by
 intro l
 induction l<;>grind [oK,List.pairwise_cons,Ol,aeX,aft,Ng]
theorem acx {x:Cl}: ∀ {l:LC},(oK x l).length<=l.length+1:=by
 intro l
 induction l<;>grind [oK]
def eX (l:LC) (c:Cl):Bool:=l.all fun d=>decide (d=c)|| !jf c d
def rR (o l:LC):LC:=l.foldl (fun o c=>oK c o) o
def jm (l:LC):LC:=rR [] (l.filter (eX l))
theorem afB {c:Cl}: ∀ {l o:LC},c∈rR o l↔c∈l\/c∈o:=by
 intro l
 induction l with
 |nil=>grind [rR]
 |cons x l ih=>
  intro o
  show c∈rR (oK x o) l↔_
  grind [Ol]
theorem acw: ∀ {l o:LC},pD o->pD (rR o l):=by
 intro l
 induction l with
 |nil=>intro o h;exact h
 |cons x l ih=>intro o h;exact ih (acy h)
theorem acv: ∀ {l o:LC},(rR o l).length<=o.length+l.length:=by
 intro l
 induction l<;>grind [rR,acx]
theorem C3 (l:LC):pD (jm l):=acw List.Pairwise.nil
theorem mem_mins {l:LC} {c:Cl}:c∈jm l↔c∈l/\eX l c=true:=by
 grind [jm,afB]
theorem Om (l:LC):(jm l).length<=l.length:=by
 grind [acv,jm]
theorem afI {l l':LC} (h: ∀c,c∈l↔c∈l') (c:Cl):eX l c=eX l' c:=by
 grind [eX]
def du (l:LC):LC×Int:=if l.all mX then if (jm l).length>64 then ([],3) else (jm l,0) else ([],2)
theorem Y0 {S:Type} {p:Prop} [Decidable p] (h:p) (f:Unit->OS S):ag (fA p) f=f ():=oi p h f
theorem aij (hk:Fu k) {d c:Cl} (hd:cO d) (hc:cO c) (J:Bool->OS S):A_ k d c J=J (!(decide (d=c)|| !jf c d)):=by
 grind [A_,AN,kH,ap,ais,jf]
theorem aem (hk:Fu k) (J:Int->OS S) {c:Cl} (hc:cO c) {l:LC} (hl:av l) (hlen:l.length<2147483648):
  ∀ (r p:LC) (m:Nat),l=p++r->r.length<m-> ∃v:Int,decide (v>=0)= !eX r c/\uI k J c l m (p.length:Int)=J v:=by
 intro r
 induction r with
 |nil=>
  intro p m h hm
  obtain ⟨m,rfl,hm'⟩:=aw hm
  exact ⟨-1,rfl,by grind [uI,AB,ae]⟩
 |cons x r ih=>
  intro p m h hm
  obtain ⟨m,rfl,hm'⟩:=aw hm
  obtain ⟨e1,e2,e3,e4⟩:=bM h (by omega)
  have hx:cO x:=hl x (by grind)
  obtain ⟨v,hv,hr⟩:=ih (p++[x]) m e4 hm'
  have e0:eX (x::r) c=((decide (x=c)|| !jf c x)&&eX r c):=by rfl
  grind [uI,AB,al,ap,aij,decide,jf,ae]
theorem aiW (hk:Fu k) {c:Cl} (hc:cO c) {l:LC} (hl:av l) (hlen:l.length<2147483648) (J:Bool->OS S):A9 k c l J=J (!eX l c):=by
 obtain ⟨v,hv,hr⟩:=aem hk (fun r1:Int=>J (decide (r1>=0))) hc hl hlen l [] k rfl (by omega)
 grind [A9,Ge,Gg,JM,ap]
theorem aep (hk:Fu k) (J:LC×Int->OS S) {l:LC} (hl:av l) (hlen:l.length<2147483648):
  ∀ (r p:LC) (m:Nat) (q:LC),l=p++r->r.length<m->q.length<=p.length->
  rT k J l m (p.length:Int) q=J (if (q++r.filter (eX l)).length>64 then ([],3) else (sortCl (q++r.filter (eX l)),0)):=by
 intro r
 induction r with
 |nil=>
  grind [aw,rT,zN,eJ]
 |cons x r ih=>
  intro p m q h hm hq
  obtain ⟨m,rfl,hm'⟩:=aw hm
  obtain ⟨e1,e2,e3,e4⟩:=bM h (by omega)
  have hx:cO x:=hl x (by grind)
  have hpl:p.length<l.length:=by grind
  simp only [rT,zN,e1,al,e2,aV,ap hk,aiW hk hx hl hlen,Bool.not_not]
  rw [e3]
  cases hn:eX l x with
  |true=>
   rw [al,cX (by grind),List.filter_cons_of_pos hn,ih (p++[x]) m (q++[x]) e4 hm' (by grind)]
   simp
  |false=>
   rw [ae,List.filter_cons_of_neg (by grind)]
   grind
theorem Cp (a b:Cl):j1 VV ET.C a b=decide (a=b):=by
 have e:j1 VV ET.C a b=((a.pos==b.pos)&&((a.neg==b.neg)&&true)):=by
  rfl
 rw [e,AN]
theorem afC (l:List (Cl×Bool)) (x y:Cl):iM VV ET.C (kw VV ET.C l x true) y=if x=y then some true else iM VV ET.C l y:=by
 induction l with
 |nil=>
  show (bif j1 VV ET.C x y then some true else .none)=_
  simp_all [Cp,iM]
 |cons a r ih=>
  obtain ⟨z,b⟩:=a
  show iM VV ET.C (bif j1 VV ET.C z x then (z,true)::r else (z,b)::kw VV ET.C r x true) y=_
  rw [Cp]
  by_cases h:z=x
  ·subst h
   rw [decide_eq_true rfl,cond_true]
   show (bif j1 VV ET.C z y then some true else iM VV ET.C r y)=if z=y then some true else (bif j1 VV ET.C z y then some b else iM VV ET.C r y)
   grind [Cp]
  ·rw [decide_eq_false h,cond_false]
   show (bif j1 VV ET.C z y then some b else iM VV ET.C (kw VV ET.C r x true) y)=if x=y then some true else (bif j1 VV ET.C z y then some b else iM VV ET.C r y)
   grind [Cp]
theorem ajC {l o:LC} (hn:o.Nodup) (h: ∀c,c∈o↔c∈l):sortCl (o.filter (eX o))=jm l/\(o.filter (eX o)).length=(jm l).length:=by
 have hp:(sortCl (o.filter (eX o))).Perm (o.filter (eX o)):=List.mergeSort_perm _ _
 have hs:(sortCl (o.filter (eX o))).Pairwise (fun a b=>pI a b=true):=
  List.pairwise_mergeSort (le:=pI) (fun a b c h1 h2=>by
   grind [pI]) (fun a b=>by
   grind [pI]) _
 have hnd:(sortCl (o.filter (eX o))).Nodup:=hp.nodup_iff.2 (hn.filter _)
 have hsorted:pD (sortCl (o.filter (eX o))):=by
  refine (hs.and hnd).imp fun {a b} h=> ?_
  have h1:=h.1
  unfold pI at h1
  simp only [Bool.or_eq_true,ak,decide_eq_true_eq,beq_iff_eq] at h1
  rcases h1 with h1|h1
  ·exact .inl h1
  ·refine .inr ⟨h1.1, ?_⟩
   grind [Cl.ext']
 have he:sortCl (o.filter (eX o))=jm l:=I8 hsorted (C3 l) fun c=>by
  grind [mem_mins,afI]
 exact ⟨he,by rw [<-he,hp.length_eq]⟩
theorem aeG (hk:Fu k) (J:LC×Int->OS S) {l:LC} (hl:av l) (hlen:l.length<2147483648):
  ∀ (r p:LC) (m:Nat) (q:List (Cl×Bool)) (o:LC),l=p++r->r.length<m->o.length<=p.length->o.Nodup->(∀c:Cl,(iM VV ET.C q c).getD false=decide (c∈o))->(∀c,c∈o↔c∈p)->
  ug k J l m q o (p.length:Int)=J (if r.all mX then if (jm l).length>64 then ([],3) else (jm l,0) else ([],2)):=by
 intro r
 induction r with
 |nil=>
  intro p m q o h hm ho hnd hq hmem
  obtain ⟨m,rfl,hm'⟩:=aw hm
  have hp:l=p:=by grind
  subst hp
  have hol:av o:=fun c hc=>hl c ((hmem c).1 hc)
  have hk':4294967296<=k:=hk
  simp only [ug,vV,eP h,ae,List.all_nil,if_true]
  have:=aep hk J hol (by omega) o [] k [] rfl (by omega) (by simp)
  grind [ajC]
 |cons x r ih=>
  intro p m q o h hm ho hnd hq hmem
  obtain ⟨m,rfl,hm'⟩:=aw hm
  obtain ⟨e1,e2,e3,e4⟩:=bM h (by omega)
  have hx:cO x:=hl x (by grind)
  have hpl:p.length<l.length:=by grind
  simp only [ug,vV,e1,al,e2,aV,ap hk,RY hk hx]
  rw [hq,e3]
  by_cases hr:mX x=true
  ·have:(x::r).all mX=r.all mX:=by grind
   rw [hr,dT,ae,this]
   by_cases hxo:x∈o
   ·grind [ae]
   ·rw [decide_eq_false hxo,dr,al,cX (by grind)]
    refine ih (p++[x]) m _ (o++[x]) e4 hm' (by grind) (List.nodup_append.2 ⟨hnd,by simp,fun a ha b hb=>by grind⟩) (fun c=> ?_) fun c=> ?_
    all_goals grind [afC]
  grind [al]
theorem nZ (hk:Fu k) {l:LC} (hl:av l) (hlen:l.length<2147483648) (J:LC×Int->OS S):kZ k l J=J (du l):=by
 simp only [kZ,Jc]
 exact aeG hk J hl hlen l [] k [] [] rfl (by omega) (by simp) List.nodup_nil (fun c=>by rfl) (fun c=>Iff.rfl)
theorem adH (hk:Fu k) (J:Bool->OS S) {a b:LC} (hlen:a.length<4294967296):
  ∀ (r s p q:LC) (m:Nat),a=p++r->b=q++s->p.length=q.length->r.length=s.length->r.length<m->uH k J a b m (p.length:Int)=J (decide (r=s)):=by
 intro r
 induction r with
 |nil=>
  grind [aw,uH,Az,ae]
 |cons x r ih=>
  intro s p q m h h' hpq hrs hm
  obtain ⟨m,rfl,hm'⟩:=aw hm
  cases s with
  |nil=>cases hrs
  |cons y s=>
   obtain ⟨e1,e2,e3,e4⟩:=bM h (by omega)
   have e2':ao b (p.length:Int)=some y:=by grind [ab8]
   simp only [uH,Az,e1,al,e2,e2',aV,AN,e3]
   rw [ih s (p++[x]) (q++[y]) m e4 (by grind) (by simp_all) (by grind) hm']
   by_cases hxy:x=y<;>simp_all [ae,al]
theorem aig (hk:Fu k) {a b:LC} (hlen:a.length<4294967296) (J:Bool->OS S):BY k a b J=J (decide (a=b)):=by
 simp only [BY,JL]
 by_cases h:a.length=b.length
 ·have e:((a.length:Int)==(b.length:Int))=true:=by simp [h]
  rw [e,dT,ae]
  exact adH hk J hlen a b [] [] k rfl rfl rfl h (by omega)
 ·have e:((a.length:Int)==(b.length:Int))=false:=by grind
  rw [e,dr,al,decide_eq_false]
  grind
theorem aeQ (l:LC):(du l).1.length<=64:=by
 grind [du]
def dF (f:LC):Bool:=decide (du f=(f,0))
theorem vr (hk:Fu k) {f:LC} (hf:av f) (hlen:f.length<2147483648) (J:Bool->OS S):mA k f J=J (dF f):=by
 have:=aeQ f
 simp only [mA,ap hk,nZ hk hf hlen,aig hk (show (du f).1.length<4294967296 by omega),kH,dF,beq_iff_eq]
 by_cases h:(du f).2=0
 all_goals simp_all [Prod.ext_iff]
def RF (f:LC):Prop:=du f=(f,0)/\av f
theorem mY {f:LC} (h:av f):dF f=true↔RF f:=by grind [dF,RF]
theorem RF.right {f:LC} (h:RF f):dF f=true:=by unfold dF;simp [h.1]
theorem xS {l o:LC} (h:du l=(o,0)):o=jm l/\l.all mX=true/\o.length<=64:=by
 grind [du]
theorem RF.len {f:LC} (h:RF f):f.length<=64:=(xS h.1).2.2
theorem RF.rc {f:LC} (h:RF f) {c:Cl} (hc:c∈f):RC c:=(IC (h.2 c hc)).1 (d7.1 (xS h.1).2.1 c hc)
theorem afD (l:LC):jm (jm l)=jm l:=I8 (C3 _) (C3 _) fun c=>by
 grind [mem_mins,eX]
theorem uS {l:LC} (hl:av l) (h:(du l).2=0):RF (du l).1:=by
 have h':du l=((du l).1,0):=Prod.ext rfl h
 obtain ⟨h1,h2,h3⟩:=xS h'
 have hok:av (du l).1:=fun c hc=>hl c ((mem_mins.1 (h1▸hc)).1)
 refine ⟨?_,hok⟩
 grind [du,mem_mins,afD]
theorem aeR {l:LC} (h:(du l).2≠0):(du l).1=[]:=by
 grind [du]
theorem ja:RF []:=⟨rfl,fun c hc=>by cases hc⟩
theorem jN {c:Cl} (h:RC c):RF [c]:=by
 have hok:av [c]:=fun d hd=>by simp at hd;subst hd;exact h.ok
 refine ⟨?_,hok⟩
 have hm:jm [c]=[c]:=I8 (C3 _) (by simp) fun d=>by
  grind [mem_mins,eX]
 unfold du
 rw [hm,if_pos (by simp [(IC h.ok).2 h]),if_neg (by simp)]
theorem vg:RC ⟨0,0⟩:=⟨⟨by decide,by decide⟩,by decide,by decide⟩
theorem nR {f g:LC} (hf:av f) (hg:av g):av (f++g):=fun c hc=>by
 rcases er.1 hc with h|h
 ·exact hf c h
 ·exact hg c h
theorem aeE (hk:Fu k) (J:Int->OS S) {l:List (LC)} (hl: ∀f∈l,av f/\f.length<2147483648) (hlen:l.length<4294967296):
  ∀ (r p:List (LC)) (m:Nat),l=p++r->r.length<m->ux k J l m (p.length:Int)=J (if r.all dF then 0 else 2):=by
 intro r
 induction r with
 |nil=>
  grind [aw,ux,Ae,ae]
 |cons x r ih=>
  intro p m h hm
  obtain ⟨m,rfl,hm'⟩:=aw hm
  obtain ⟨e1,e2,e3,e4⟩:=bM h (by omega)
  have hx:=hl x (by grind)
  grind [ux,Ae,al,ap,vr,ae]
theorem IX (hk:Fu k) {l:List (LC)} (hl: ∀f∈l,av f/\f.length<2147483648) (hlen:l.length<4294967296) (J:Int->OS S):tH k l J=J (if l.all dF then 0 else 2):=by
 simp only [tH,Jw]
 exact aeE hk J hl hlen l [] k rfl (by omega)
def jG (f g:LC):LC×Int:=du (f++g)
def meets (f g:LC):LC:=f.flatMap fun a=>g.map (jJ a)
def jK (f g:LC):LC×Int:=du (meets f g)
theorem Ok {f g:LC} (hf:av f) (hg:av g):av (meets f g):=fun c hc=>by
 obtain ⟨a,ha,hc⟩:=List.mem_flatMap.1 hc
 obtain ⟨b,hb,rfl⟩:=dI.1 hc
 exact C1 (hf a ha) (hg b hb)
theorem uU {f g:LC} (hf:av f) (hg:av g) (h:(jK f g).2=0):RF (jK f g).1:=uS (Ok hf hg) h
theorem acD {f g:LC} (hf:av f) (hg:av g) (h:(jG f g).2=0):RF (jG f g).1:=uS (nR hf hg) h
theorem DV (hk:Fu k) {f g:LC} (hf:av f) (hg:av g) (h1:f.length<1073741824) (h2:g.length<1073741824) (J:LC×Int->OS S):rF k f g J=J (jG f g):=by
 simp only [rF,ap hk,fq]
 rw [cX (by grind),cX (by omega),nZ hk (nR hf hg) (by grind)]
 rfl
theorem aev (hk:Fu k) (J:LC×Int->OS S) (rec0:Int->LC->OS S) {x:Cl} (hx:cO x) {g f:LC} {v:Int} (hg:av g) (hlen:g.length<65536):
  ∀ (r p:LC) (m:Nat) (o:LC),g=p++r->r.length<m->o.length+r.length<1099511627776->rU k J rec0 x g f v m (p.length:Int) o=rec0 (af .i64 (v+1)) (o++r.map (jJ x)):=by
 intro r
 induction r with
 |nil=>
  intro p m o h hm ho
  obtain ⟨m,rfl,hm'⟩:=aw hm
  grind [rU,Ac,ae]
 |cons y r ih=>
  intro p m o h hm ho
  obtain ⟨m,rfl,hm'⟩:=aw hm
  obtain ⟨e1,e2,e3,e4⟩:=bM h (by omega)
  have hy:cO y:=hg y (by grind)
  simp only [dv] at ho
  simp only [rU,Ac,e1,al,e2,aV,ap hk,IV hk hx hy,e3]
  grind [cX]
theorem aeu (hk:Fu k) (J:LC×Int->OS S) {g f:LC} (hf:av f) (hg:av g) (hlf:f.length<32768) (hlg:g.length<32768):
  ∀ (r p:LC) (m:Nat) (o:LC),f=p++r->r.length<m->av o->o.length+r.length*g.length<1073741825->qi k J g f m (p.length:Int) o=J (du (o++meets r g)):=by
 intro r
 induction r with
 |nil=>
  grind [aw,qi,vX,ae,ap,nZ,meets]
 |cons x r ih=>
  intro p m o h hm hok ho
  obtain ⟨m,rfl,hm'⟩:=aw hm
  obtain ⟨e1,e2,e3,e4⟩:=bM h (by omega)
  have hx:cO x:=hf x (by grind)
  have hmul:(x::r).length*g.length=r.length*g.length+g.length:=by grind
  rw [hmul] at ho
  have hk':4294967296<=k:=hk
  simp only [qi,vX,e1,al,e2,aV]
  have:=aev hk J (qi k J g f m) (f:=f) (v:=(p.length:Int)) hx hg (by omega) g [] k o rfl (by omega) (by omega)
  simp only [List.length_nil] at this
  rw [show (0:Int)=((0:Nat):Int) from rfl,this,e3,ih (p++[x]) m _ e4 hm' (nR hok fun c hc=>by
   obtain ⟨b,hb,rfl⟩:=dI.1 hc
   exact C1 hx (hg b hb)) (by grind)]
  simp [meets]
theorem y9 (hk:Fu k) {f g:LC} (hf:av f) (hg:av g) (h1:f.length<32768) (h2:g.length<32768) (J:LC×Int->OS S):oq k f g J=J (jK f g):=by
 simp only [oq,Ju]
 have hb:f.length*g.length<1073741824:=Nat.lt_of_le_of_lt (Nat.mul_le_mul (Nat.le_of_lt_succ h1) (Nat.le_of_lt_succ h2)) (by decide)
 have:=aeu hk J hf hg h1 h2 f [] k [] rfl (by omega) (fun c hc=>by cases hc) (by grind)
 grind [jK]
theorem RF.lt {f:LC} (h:RF f):f.length<2147483648:=by have:=h.len;omega
theorem u0:U32 0:=⟨by decide,by decide⟩
def nl (i:Int):Cl:=⟨0,nd 0 i⟩
def pl (i:Int):Cl:=⟨nd 0 i,0⟩
theorem Ot (i:Int):RC (nl i):=⟨⟨by show (0:Int)<=0;decide,by show (0:Int)<16777216;decide⟩,Tp⟩
theorem ON (i:Int):RC (pl i):=⟨Tp,⟨by show (0:Int)<=0;decide,by show (0:Int)<16777216;decide⟩⟩
def uY (c:Cl):LC:=(mK c.pos).map nl++(mK c.neg).map pl
def s9 (c:Cl):LC×Int:=du (uY c)
theorem Hj (s:Int):(mK s).length<=24:=by grind [mK,acA,YA]
theorem OI {c d:Cl} (h:d∈uY c):RC d:=by
 rcases er.1 h with h|h<;>grind [Ot,ON]
theorem agl (c:Cl):(uY c).length<=48:=by
 grind [Hj,uY]
theorem He {l:LC} (h: ∀c∈l,RC c) (hl:l.length<=64):(du l).2=0:=by
 have:=Om l
 unfold du
 rw [if_pos (d7.2 fun c hc=>(IC (h c hc).ok).2 (h c hc)),if_neg (by omega)]
theorem OJ (c:Cl):(s9 c).2=0:=He (fun d hd=>OI hd) (by have:=agl c;omega)
theorem HQ (c:Cl):RF (s9 c).1:=uS (fun d hd=>(OI hd).ok) (OJ c)
theorem aey (hk:Fu k) (J:LC×Int->OS S) {l:List Int} (hlen:l.length<=64):
  ∀ (r p:List Int) (m:Nat) (o:LC),l=p++r->r.length<m->av o->o.length+r.length<1073741824->rV k J l m (p.length:Int) o=J (du (o++r.map pl)):=by
 intro r
 induction r with
 |nil=>
  grind [aw,rV,Ad,ae,ap,nZ]
 |cons x r ih=>
  intro p m o h hm hok ho
  obtain ⟨m,rfl,hm'⟩:=aw hm
  obtain ⟨e1,e2,e3,e4⟩:=bM h (by omega)
  simp only [dv] at ho
  simp only [rV,Ad,e1,al,e2,aV,ap hk,y7 hk u0,e3]
  rw [cX (by grind),ih (p++[x]) m _ e4 hm' (nR hok fun c hc=>by simp at hc;subst hc;exact (ON x).ok) (by grind)]
  simp [pl]
theorem aex (hk:Fu k) (J:LC×Int->OS S) {c:Cl} (hc:cO c) {l:List Int} (hlen:l.length<=64):
  ∀ (r p:List Int) (m:Nat) (o:LC),l=p++r->r.length<m->av o->o.length+r.length<1000000->uw k J c l m (p.length:Int) o=J (du (o++r.map nl++(mK c.neg).map pl)):=by
 intro r
 induction r with
 |nil=>
  intro p m o h hm hok ho
  obtain ⟨m,rfl,hm'⟩:=aw hm
  simp only [List.length_nil] at ho
  have hl:=Hj c.neg
  have hk':4294967296<=k:=hk
  simp only [uw,vY,eP h,ae,yF,Oi hc.2,List.map_nil,eZ]
  grind [aey]
 |cons x r ih=>
  intro p m o h hm hok ho
  obtain ⟨m,rfl,hm'⟩:=aw hm
  obtain ⟨e1,e2,e3,e4⟩:=bM h (by omega)
  simp only [dv] at ho
  simp only [uw,vY,e1,al,e2,aV,ap hk,y7 hk u0,e3]
  rw [cX (by grind),ih (p++[x]) m _ e4 hm' (nR hok fun c hc=>by simp at hc;subst hc;exact (Ot x).ok) (by grind)]
  simp [nl]
theorem aiY (hk:Fu k) {c:Cl} (hc:cO c) (J:LC×Int->OS S):Bz k c J=J (s9 c):=by
 have hl:=Hj c.pos
 simp only [Bz,Jv,yF,Oi hc.1]
 have:=aex hk J hc (l:=mK c.pos) (by omega) (mK c.pos) [] k [] rfl (by omega) (fun c hc=>by cases hc) (by grind)
 grind [s9,uY]
def dP (step:LC->Cl->LC×Int):LC->LC->LC×Int
 |h,[]=>(h,0)
 |h,c::r=>if (step h c).2=0 then dP step (step h c).1 r else ([],(step h c).2)
def yx (h:LC) (c:Cl):LC×Int:=jK h (s9 c).1
def ij (f:LC):LC×Int:=dP yx [⟨0,0⟩] f
theorem Mb {step:LC->Cl->LC×Int} (hs: ∀h c,RF h->(step h c).2=0->RF (step h c).1): ∀ {r h:LC},RF h->(dP step h r).2=0->RF (dP step h r).1:=by
 intro r
 induction r<;>grind [dP]
theorem Ow (h:LC) (c:Cl) (hh:RF h) (h0:(yx h c).2=0):RF (yx h c).1:=uU hh.2 (HQ c).2 h0
theorem yy {f:LC} (h:(ij f).2=0):RF (ij f).1:=Mb Ow (jN vg) h
theorem fc (n:Int):(n==0)=decide (n=0):=by rfl
theorem aiX (hk:Fu k) {h:LC} {c:Cl} (hh:RF h) (hc:cO c) (J:LC×Int->OS S):By k h c J=J (yx h c):=by
 have:=hh.len;have:=(HQ c).len
 simp only [By,ap hk,aiY hk hc,OJ,y9 hk hh.2 (HQ c).2 (show h.length<32768 by omega) (show (s9 c).1.length<32768 by omega)]
 rfl
theorem aef (hk:Fu k) (J:LC×Int->OS S) {l:LC} (hl:av l) (hlen:l.length<2147483648):
  ∀ (r p:LC) (m:Nat) (h:LC),l=p++r->r.length<m->RF h->ut k J l m h (p.length:Int)=J (dP yx h r):=by
 intro r
 induction r with
 |nil=>
  intro p m h e hm hh
  obtain ⟨m,rfl,hm'⟩:=aw hm
  simp only [ut,Aa,eP e,ae];rfl
 |cons x r ih=>
  intro p m h e hm hh
  obtain ⟨m,rfl,hm'⟩:=aw hm
  obtain ⟨e1,e2,e3,e4⟩:=bM e (by omega)
  have hx:cO x:=hl x (by grind)
  simp only [ut,Aa,e1,al,e2,aV,ap hk,aiX hk hh hx,fc,e3]
  grind [ae,Ow,dP,al]
theorem R8 (hk:Fu k) {f:LC} (hf:av f) (hlen:f.length<2147483648) (J:LC×Int->OS S):tG k f J=J (ij f):=by
 simp only [tG,ap hk,rD,F6,Js]
 exact aef hk J hf hlen f [] k _ rfl (by omega) (jN vg)
theorem aiz (hk:Fu k) {f:LC} (hf:av f) (hlen:f.length<2147483648) (J:LC×Int->OS S):Bu k f J=J (if dF f then ij f else ([],2)):=by
 simp only [Bu,ap hk,IX hk (l:=[f]) (by grind) (by simp),R8 hk hf hlen]
 have:[f].all dF=dF f:=by simp
 rw [this]
 by_cases h:dF f=true
 ·rw [if_pos h,if_pos h];rfl
 ·rw [if_neg h,if_neg h];rfl
def gE (i:Int) (c:Cl):Cl:=⟨jQ c.pos i,jQ c.neg i⟩
theorem t_ (i:Int) (c:Cl):RC (gE i c):=⟨Tr,Tr⟩
def kx (i:Int) (r:LC) (c:Cl):LC×Int:=if iY c.pos i then jK [gE i c] r else ([gE i c],0)
def mT (i:Int) (r:LC) (c:Cl) (g:LC):LC×Int:=if iY c.neg i then if (ij r).2=0 then jK g (ij r).1 else ([],(ij r).2) else (g,0)
def nT (i:Int) (r h:LC) (c:Cl):LC×Int:=
 if (kx i r c).2=0 then if (mT i r c (kx i r c).1).2=0 then jG h (mT i r c (kx i r c).1).1 else ([],(mT i r c (kx i r c).1).2) else ([],(kx i r c).2)
def tW (i:Int):Bool:=decide (0<=i/\i<24)
def mf (f:LC) (i:Int) (r:LC):LC×Int:=if dF f&&dF r&&tW i then dP (nT i r) [] f else ([],2)
theorem agI {i:Int} {r:LC} {c:Cl} (hr:RF r) (h:(kx i r c).2=0):RF (kx i r c).1:=by
 unfold kx at h ⊢
 split
 ·next hh=>rw [if_pos hh] at h;exact uU (jN (t_ i c)).2 hr.2 h
 simp_all [jN,t_]
theorem agK {i:Int} {r g:LC} {c:Cl} (hg:RF g) (h:(mT i r c g).2=0):RF (mT i r c g).1:=by
 unfold mT at h ⊢
 split
 ·next hh=>
  rw [if_pos hh] at h
  split
  ·next hn=>rw [if_pos hn] at h;exact uU hg.2 (yy hn).2 h
  grind
 omega
theorem OU {i:Int} {r:LC} (hr:RF r) (h:LC) (c:Cl) (hh:RF h) (h0:(nT i r h c).2=0):RF (nT i r h c).1:=by
 unfold nT at h0 ⊢
 split
 ·next ha=>
  rw [if_pos ha] at h0
  have hA:=agI hr ha
  split
  ·next hb=>rw [if_pos hb] at h0;exact acD hh.2 (agK hA hb).2 h0
  grind
 grind
theorem aik (hk:Fu k) {i:Int} {r h:LC} {c:Cl} (hr:RF r) (hh:RF h) (hc:cO c) (J:LC×Int->OS S):Bw k h c i r J=J (nT i r h c):=by
 have l1:=hr.len;have l2:=hh.len
 have hg:=jN (t_ i c)
 simp only [Bw,ap hk,y8 hk hc.1,y8 hk hc.2,ti hk hc.1,ti hk hc.2,y9 hk hg.2 hr.2 (show [gE i c].length<32768 by simp) (show r.length<32768 by omega),R8 hk hr.2 hr.lt,fc,kH,decide_eq_true_eq,j9,decide_eq_false_iff_not]
 have e: ∀ (f:LC×Int->OS S),oq k [Cl.mk (jQ c.pos i) (jQ c.neg i)] r f=f (jK [gE i c] r):=fun f=>y9 hk hg.2 hr.2 (by simp) (by omega) f
 simp only [e]
 unfold nT kx mT
 by_cases hp:iY c.pos i=true
 ·simp only [hp,if_true]
  by_cases h1:(jK [gE i c] r).2=0
  ·have hA:RF (jK [gE i c] r).1:=uU hg.2 hr.2 h1
   have l3:=hA.len
   simp only [h1,not_true,if_false,if_true]
   by_cases hn:iY c.neg i=true
   ·simp only [hn,if_true]
    by_cases h2:(ij r).2=0
    ·have hN:=yy h2
     have l4:=hN.len
     simp only [h2,not_true,if_false,if_true]
     rw [y9 hk hA.2 hN.2 (by omega) (by omega)]
     by_cases h3:(jK (jK [gE i c] r).1 (ij r).1).2=0
     ·have hB:=uU hA.2 hN.2 h3
      have l5:=hB.len
      simp only [h3,not_true,if_false,if_true]
      rw [DV hk hh.2 hB.2 (by omega) (by omega)]
     grind
    grind
   ·simp only [hn,Bool.false_eq_true,if_false,if_true]
    rw [DV hk hh.2 hA.2 (by omega) (by omega)]
  grind
 ·simp only [hp,Bool.false_eq_true,if_false,if_true]
  by_cases hn:iY c.neg i=true
  ·simp only [hn,if_true]
   by_cases h2:(ij r).2=0
   ·have hN:=yy h2
    have l4:=hN.len
    simp only [h2,not_true,if_false,if_true]
    have e2: ∀ (f:LC×Int->OS S),oq k [Cl.mk (jQ c.pos i) (jQ c.neg i)] (ij r).1 f=f (jK [gE i c] (ij r).1):=fun f=>y9 hk hg.2 hN.2 (by simp) (by omega) f
    rw [e2]
    by_cases h3:(jK [gE i c] (ij r).1).2=0
    ·have hB:=uU hg.2 hN.2 h3
     have l5:=hB.len
     simp only [h3,not_true,if_false,if_true]
     rw [DV hk hh.2 hB.2 (by omega) (by omega)]
    grind
   grind
  ·simp only [hn,Bool.false_eq_true,if_false,if_true]
   have:=DV hk hh.2 hg.2 (by omega) (by simp) J
   exact this
theorem aeg (hk:Fu k) (J:LC×Int->OS S) {i:Int} {q:LC} (hq:RF q) {l:LC} (hl:av l) (hlen:l.length<2147483648):
  ∀ (r p:LC) (m:Nat) (h:LC),l=p++r->r.length<m->RF h->ur k J i q l m h (p.length:Int)=J (dP (nT i q) h r):=by
 intro r
 induction r with
 |nil=>
  intro p m h e hm hh
  obtain ⟨m,rfl,hm'⟩:=aw hm
  simp only [ur,z_,eP e,ae];rfl
 |cons x r ih=>
  intro p m h e hm hh
  obtain ⟨m,rfl,hm'⟩:=aw hm
  obtain ⟨e1,e2,e3,e4⟩:=bM e (by omega)
  have hx:cO x:=hl x (by grind)
  simp only [ur,z_,e1,al,e2,aV,ap hk,aik hk hq hh hx,fc,e3]
  grind [ae,OU,dP,al]
theorem aif (hk:Fu k) (i:Int) (J:LC×Int->OS S):Bt k i J=J (if tW i then ([⟨nd 0 i,0⟩],0) else ([],2)):=by
 simp only [Bt,ap hk,y7 hk u0]
 grind [tW,Kl,FO,ae,FM,al]
theorem aiA (hk:Fu k) {f r:LC} {i:Int} (hf:av f) (hr:av r) (h1:f.length<2147483648) (h2:r.length<2147483648) (J:LC×Int->OS S):Bv k f i r J=J (mf f i r):=by
 simp only [Bv,ap hk,IX hk (l:=[f,r]) (by grind) (by simp),aif hk]
 have e:[f,r].all dF=(dF f&&dF r):=by simp
 unfold mf
 by_cases ha:(dF f&&dF r)=true
 ·rw [e,if_pos ha,ha,Bool.true_and]
  rw [show ((0:Int)==0)=true from rfl,dT,ae]
  cases hd:tW i with
  |true=>
   rw [if_pos rfl,if_pos rfl]
   rw [show ((0:Int)==0)=true from rfl,dT,ae]
   simp only [rE,F5,Jr]
   have hr':=(mY hr).1 (by grind)
   exact aeg hk J hr' hf h1 f [] k [] rfl (by omega) ja
  |false=>
   rfl
 simp_all [if_neg,al]
theorem ae6 {m n b:Nat}:(lk m n b).1<16777216:=by
 have h1:m&&&M24<16777216:=Nat.lt_of_le_of_lt Nat.and_le_right (by decide)
 have h2:mb m n<=m&&&M24:=Nat.and_le_left
 unfold lk
 split
 ·omega
 ·split
  ·simp
  ·split
   ·simp
   ·exact Nat.or_lt_two_pow (n:=24) (by omega) (by omega)
theorem M4 (s i b:Int):0<=(fh s i b).1/\(fh s i b).1<16777216:=by
 grind [fh,ae6]
theorem ae1 (c:Cl) (i b:Int):RC (ig c i b).1:=by
 unfold ig
 split
 ·split
  ·split
   ·exact ⟨M4 _ _ _,M4 _ _ _⟩
   ·exact vg
  ·exact vg
 ·exact vg
def jH (i b:Int) (h:LC) (c:Cl):LC×Int:=(h++[(ig c i b).1],(ig c i b).2)
def cm (f:LC) (i b:Int):LC×Int:=if dF f then if (dP (jH i b) [] f).2=0 then du (dP (jH i b) [] f).1 else ([],(dP (jH i b) [] f).2) else ([],2)
theorem GK {i b:Int}: ∀ {r h:LC},av h->av (dP (jH i b) h r).1/\(dP (jH i b) h r).1.length<=h.length+r.length:=by
 intro r
 induction r with
 |nil=>intro h hh;exact ⟨hh,by show h.length<=_;omega⟩
 |cons c r ih=>
  intro h hh
  unfold dP
  split
  ·have:=ih (h:=(jH i b h c).1) (nR hh fun d hd=>by simp at hd;subst hd;exact (ae1 c i b).ok)
   grind [jH]
  ·exact ⟨fun d hd=>(by cases hd),by simp⟩
theorem aee (hk:Fu k) (J:LC×Int->OS S) {i b:Int} (hi:aR i) (hb:aR b) {l:LC} (hl:av l) (hlen:l.length<2147483648):
  ∀ (r p:LC) (m:Nat) (h:LC),l=p++r->r.length<m->h.length+r.length<4294967296->uu k J i b l m h (p.length:Int)=J (dP (jH i b) h r):=by
 intro r
 induction r with
 |nil=>
  intro p m h e hm hh
  obtain ⟨m,rfl,hm'⟩:=aw hm
  simp only [uu,Ab,eP e,ae];rfl
 |cons x r ih=>
  intro p m h e hm hh
  obtain ⟨m,rfl,hm'⟩:=aw hm
  obtain ⟨e1,e2,e3,e4⟩:=bM e (by omega)
  have hx:cO x:=hl x (by grind)
  simp only [dv] at hh
  simp only [uu,Ab,e1,al,e2,aV,ap hk,F1,ait hk hx hi hb,fc,e3]
  grind [cX,ae,dP,jH,al]
theorem vq (hk:Fu k) {f:LC} {i b:Int} (hf:av f) (hlen:f.length<1073741824) (hi:aR i) (hb:aR b) (J:LC×Int->OS S):om k f i b J=J (cm f i b):=by
 have hlo:=GK (i:=i) (b:=b) (r:=f) (h:=[]) (fun d hd=>by cases hd)
 simp only [List.length_nil] at hlo
 have hfold: ∀ (g:LC×Int->OS S),Bx k f [] i b g=g (dP (jH i b) [] f):=fun g=>by
  simp only [Bx,Jt]
  exact aee hk g hi hb hf (by omega) f [] k [] rfl (by omega) (by grind)
 simp only [om,ap hk,IX hk (l:=[f]) (by grind) (by simp),rE,hfold,nZ hk hlo.1 (show _<2147483648 by omega)]
 grind [cm,ae,decide_eq_false,al]
theorem lj {f:LC} {i b:Int} (h:(cm f i b).2=0):RF (cm f i b).1:=by
 unfold cm at h ⊢
 split
 ·next hr=>
  rw [if_pos hr] at h
  split
  ·next h0=>
   rw [if_pos h0] at h
   exact uS (GK fun d hd=>by cases hd).1 h
  grind
 grind
theorem ae2 {f:LC} {i b:Int} (h:(cm f i b).2≠0):(cm f i b).1=[]:=by
 grind [cm,aeR]
def C6 (s:Nat) (f:LC):Nat:=f.foldl (fun s c=>s|||(c.pos.toNat|||c.neg.toNat)) s
def nC (f:LC):Nat:=C6 0 f&&&M24
def nA (f:LC):Int:=((nC f:Nat):Int)
def qO (f:LC) (i:Nat):Bool:=f.any fun c=>c.pos.toNat.testBit i||c.neg.toNat.testBit i
theorem agm (i:Nat): ∀ {f:LC} {s:Nat},(C6 s f).testBit i=(s.testBit i||qO f i):=by
 intro f
 induction f<;>simp_all [C6,qO,Bool.or_assoc]
theorem B_ (f:LC) (i:Nat):(nC f).testBit i=(qO f i&&decide (i<24)):=by
 grind [nC,pH,agm]
theorem Lj (f:LC):nC f<16777216:=Nat.lt_of_le_of_lt Nat.and_le_right (by decide)
theorem ad0 (hk:Fu k) (J:Int->OS S) {l:LC} (hl:av l) (hlen:l.length<4294967296):
  ∀ (r p:LC) (m:Nat) (s:Nat),l=p++r->r.length<m->s<4294967296->uq k J l m (s:Int) (p.length:Int)=J (((C6 s r&&&M24:Nat):Int)):=by
 intro r
 induction r with
 |nil=>
  intro p m s e hm hs
  obtain ⟨m,rfl,hm'⟩:=aw hm
  simp only [uq,z8,eP e,ae,ap hk,y8 hk (U32.of hs)]
  rfl
 |cons x r ih=>
  intro p m s e hm hs
  obtain ⟨m,rfl,hm'⟩:=aw hm
  obtain ⟨e1,e2,e3,e4⟩:=bM e (by omega)
  have hx:cO x:=hl x (by grind)
  have ho:U32 (lr x.pos x.neg):=C7 hx.1 hx.2
  have hq:s|||(x.pos.toNat|||x.neg.toNat)<4294967296:=by
   have h1:=hx.1.1;have h2:=hx.1.2;have h3:=hx.2.1;have h4:=hx.2.2
   have h32:(2:Nat)^32=4294967296:=by decide
   exact Nat.or_lt_two_pow (n:=32) hs (Nat.or_lt_two_pow (n:=32) (by omega) (by omega))
  have es:lr (s:Int) (lr x.pos x.neg)=((s|||(x.pos.toNat|||x.neg.toNat):Nat):Int):=by rfl
  simp only [uq,z8,e1,al,e2,aV,yC hx.1 hx.2,yC (U32.of hs) ho,e3,es]
  exact ih (p++[x]) m _ e4 hm' hq
theorem IW (hk:Fu k) {f:LC} (hf:av f) (hlen:f.length<4294967296) (J:Int->OS S):tF k f J=J (nA f):=by
 simp only [tF,Jq]
 exact ad0 hk J hf hlen f [] k 0 rfl (by omega) (by decide)
def a7 (f:LC) (d:Int):Bool:=decide (∀i∈ke (nC f),(i:Int)<d)
theorem Sr (hk:Fu k) {f:LC} {d:Int} (hf:av f) (hlen:f.length<4294967296) (hd:0<=d) (hd':d<9223372036854775808) (J:Bool->OS S):pS k f d J=J (a7 f d):=by
 simp only [pS,eJ,ap hk,IW hk hf hlen]
 by_cases h:d>=24
 ·grind [a7,mem_bitsN]
 ·rw [if_neg h]
  obtain ⟨n,rfl⟩: ∃n:Nat,d=n:=⟨d.toNat,by omega⟩
  rw [nf n (by omega),Y0 (by omega),ir,Nat.min_eq_left (by omega)]
  congr 1
  rw [nA,GH,a7,Bool.eq_iff_iff]
  simp only [beq_iff_eq,decide_eq_true_eq]
  have hdiv:(nC f/2^n=0)↔nC f<2^n:=Nat.div_eq_zero_iff_lt (Nat.two_pow_pos n)
  constructor
  ·grind [mem_bitsN,Nat.lt_of_lt_of_le,Nat.pow_le_pow_right,Nat.testBit_lt_two_pow]
  ·intro h0
   have:nC f<2^n:=by
    apply Nat.lt_pow_two_of_testBit
    grind [mem_bitsN,rx,Lj]
   omega
def wH (c:Cl):Bool:= !fC c
def jy (l:LC):LC:=l.filter wH
def bV (f:LC):Bool:=dF f&&f.all fun c=> !fC c
def RFa (f:LC):Prop:=RF f/\ ∀c∈f,fC c=false
theorem lz {f:LC} (h:av f):bV f=true↔RFa f:=by
 grind [bV,RFa,mY]
theorem RFa.right {f:LC} (h:RFa f):bV f=true:=(lz h.1.2).2 h
theorem AT {l:LC} {c:Cl} (h:c∈jy l):c∈l/\fC c=false:=by
 have:=List.mem_filter.1 h
 grind [wH]
theorem KX {l:LC} (h:av l):av (jy l):=fun c hc=>h c (AT hc).1
theorem Hc {l:LC} (hl:av l) (hc: ∀c∈l,fC c=false) (h:(du l).2=0):RFa (du l).1:=by
 refine ⟨uS hl h,fun c hcm=> ?_⟩
 grind [du,mem_mins]
theorem Rk:RFa []:=⟨ja,fun c hc=>by cases hc⟩
theorem Rl {c:Cl} (h:RC c) (h':fC c=false):RFa [c]:=⟨jN h,fun d hd=>by grind⟩
theorem KW (l:LC):(jy l).length<=l.length:=List.length_filter_le _ _
theorem adQ (hk:Fu k) (J:Int->OS S) {l:LC} (hl:av l) (hlen:l.length<2147483648):
  ∀ (r p:LC) (m:Nat),l=p++r->r.length<m-> ∃v:Int,decide (v>=0)=r.any fC/\uJ k J l m (p.length:Int)=J v:=by
 intro r
 induction r with
 |nil=>
  intro p m h hm
  obtain ⟨m,rfl,hm'⟩:=aw hm
  exact ⟨-1,rfl,by grind [uJ,AC,ae]⟩
 |cons x r ih=>
  intro p m h hm
  obtain ⟨m,rfl,hm'⟩:=aw hm
  obtain ⟨e1,e2,e3,e4⟩:=bM h (by omega)
  have hx:cO x:=hl x (by grind)
  obtain ⟨v,hv,hr⟩:=ih (p++[x]) m e4 hm'
  grind [uJ,AC,al,ap,RW,ae]
theorem vt (hk:Fu k) {f:LC} (hf:av f) (hlen:f.length<2147483648) (J:Bool->OS S):ol k f J=J (bV f):=by
 obtain ⟨v,hv,hr⟩:=adQ hk (fun r1:Int=>(fun r2:Bool=>J (!r2)) (decide (r1>=0))) hf hlen f [] k rfl (by omega)
 simp only [ol,ap hk,vr hk hf hlen,Gf,Gi,JN]
 grind [bV,dF,al,ae]
theorem aec (hk:Fu k) (J:Int->OS S) {l:List (LC)} (hl: ∀f∈l,av f/\f.length<2147483648) (hlen:l.length<4294967296):
  ∀ (r p:List (LC)) (m:Nat),l=p++r->r.length<m->uo k J l m (p.length:Int)=J (if r.all bV then 0 else 2):=by
 intro r
 induction r with
 |nil=>
  grind [aw,uo,z7,ae]
 |cons x r ih=>
  intro p m h hm
  obtain ⟨m,rfl,hm'⟩:=aw hm
  obtain ⟨e1,e2,e3,e4⟩:=bM h (by omega)
  have hx:=hl x (by grind)
  grind [uo,z7,al,ap,vt,ae]
theorem aiH (hk:Fu k) {l:List (LC)} (hl: ∀f∈l,av f/\f.length<2147483648) (hlen:l.length<4294967296) (J:Int->OS S):Bq k l J=J (if l.all bV then 0 else 2):=by
 simp only [Bq,Jp]
 exact aec hk J hl hlen l [] k rfl (by omega)
def sM (l:LC):LC×Int:=du (jy l)
def mR (f:LC):LC×Int:=if dF f then sM f else ([],2)
def nQ (f:LC):LC×Int:=if dF f then if (ij f).2=0 then sM (ij f).1 else ([],(ij f).2) else ([],2)
theorem Hb {l:LC} (hl:av l) (h:(sM l).2=0):RFa (sM l).1:=Hc (KX hl) (fun c hc=>(AT hc).2) h
theorem OB {f:LC} (h:(mR f).2=0) (hf:av f):RFa (mR f).1:=by
 grind [mR,Hb]
theorem OC {f:LC} (h:(nQ f).2=0) (hf:av f):RFa (nQ f).1:=by
 unfold nQ at h ⊢
 split
 ·next hr=>
  rw [if_pos hr] at h
  split
  ·next h0=>rw [if_pos h0] at h;exact Hb (yy h0).2 h
  grind
 grind
theorem R5 (hk:Fu k) {c:Cl} (hc:cO c) (J:Cl×Bool->OS S):wV k c J=J (c,wH c):=by
 simp only [wV,ap hk,RW hk hc];rfl
theorem aen (hk:Fu k) (J:LC->OS S) {l:LC} (hl:av l) (hlen:l.length<2147483648):
  ∀ (r p:LC) (m:Nat) (o:LC),l=p++r->r.length<m->o.length+r.length<4294967296->uk k J l m (p.length:Int) o=J (o++jy r):=by
 intro r
 induction r with
 |nil=>
  grind [aw,uk,zX,ae,jy]
 |cons x r ih=>
  intro p m o h hm ho
  obtain ⟨m,rfl,hm'⟩:=aw hm
  obtain ⟨e1,e2,e3,e4⟩:=bM h (by omega)
  have hx:cO x:=hl x (by grind)
  simp only [dv] at ho
  simp only [uk,zX,e1,al,e2,aV,ap hk,R5 hk hx,e3]
  grind [al,cX,jy,ae]
theorem aiO (hk:Fu k) {l:LC} (hl:av l) (hlen:l.length<2147483648) (J:LC->OS S):Bn k l J=J (jy l):=by
 simp only [Bn,Jm]
 have:=aen hk J hl hlen l [] k [] rfl (by omega) (by grind)
 grind
theorem R6 (hk:Fu k) {f:LC} (hf:av f) (hlen:f.length<2147483648) (J:LC×Int->OS S):wU k f J=J (mR f):=by
 have:=KW f
 simp only [wU,ap hk,vr hk hf hlen,aiO hk hf hlen,nZ hk (KX hf) (show (jy f).length<2147483648 by omega)]
 unfold mR
 cases dF f with
 |true=>rfl
 |false=>rfl
theorem aiE (hk:Fu k) {f:LC} (hf:av f) (hlen:f.length<2147483648) (J:LC×Int->OS S):Bj k f J=J (nQ f):=by
 simp only [Bj,ap hk,aiz hk hf hlen,fc]
 unfold nQ
 cases dF f with
 |true=>
  rw [if_pos rfl,if_pos rfl]
  by_cases h0:(ij f).2=0
  ·have hr:=yy h0
   rw [decide_eq_true h0,dT,ae,if_pos h0,R6 hk hr.2 hr.lt]
   unfold mR
   rw [if_pos hr.right]
  grind [al]
 |false=>
  rfl
def o8 (f g:LC):LC×Int:=sM (meets f g)
def jF (f g:LC):LC×Int:=if bV f&&bV g then jG f g else ([],2)
theorem R7 (hk:Fu k) {f g:LC} (hf:av f) (hg:av g) (h1:f.length<1073741824) (h2:g.length<1073741824) (J:LC×Int->OS S):wX k f g J=J (jG f g):=by
 simp only [wX,ap hk,fq]
 rw [cX (by grind),cX (by omega),nZ hk (nR hf hg) (by grind)]
 rfl
theorem aiC (hk:Fu k) {f g:LC} (hf:av f) (hg:av g) (h1:f.length<1073741824) (h2:g.length<1073741824) (J:LC×Int->OS S):Bh k f g J=J (jF f g):=by
 simp only [Bh,ap hk,aiH hk (l:=[f,g]) (by grind) (by simp),R7 hk hf hg h1 h2]
 have e:[f,g].all bV=(bV f&&bV g):=by simp
 unfold jF
 rw [e]
 cases (bV f&&bV g)<;>grind [ae,al]
theorem CI {f g:LC} (hf:RFa f) (hg:RFa g) (h:(jG f g).2=0):RFa (jG f g).1:=
 Hc (nR hf.1.2 hg.1.2) (fun c hc=>by
  rcases er.1 hc with h|h
  ·exact hf.2 c h
  ·exact hg.2 c h) h
theorem aiD (hk:Fu k) {b c:Cl} (hb:cO b) (hc:cO c) (J:Cl×Bool->OS S):Bp k b c J=J (jJ c b,wH (jJ c b)):=by
 simp_all [Bp,ap,IV,R5,C1]
theorem aeo (hk:Fu k) (J:LC->OS S) {c:Cl} (hc:cO c) {l:LC} (hl:av l) (hlen:l.length<2147483648):
  ∀ (r p:LC) (m:Nat) (o:LC),l=p++r->r.length<m->o.length+r.length<4294967296->uj k J c l m (p.length:Int) o=J (o++jy (r.map (jJ c))):=by
 intro r
 induction r with
 |nil=>
  intro p m o h hm ho
  obtain ⟨m,rfl,hm'⟩:=aw hm
  grind [uj,zW,ae,jy]
 |cons x r ih=>
  intro p m o h hm ho
  obtain ⟨m,rfl,hm'⟩:=aw hm
  obtain ⟨e1,e2,e3,e4⟩:=bM h (by omega)
  have hx:cO x:=hl x (by grind)
  simp only [dv] at ho
  simp only [uj,zW,e1,al,e2,aV,ap hk,aiD hk hx hc,e3]
  cases hb:wH (jJ c x)<;>grind [al,cX,jy,ae]
theorem aiP (hk:Fu k) {c:Cl} (hc:cO c) {l:LC} (hl:av l) (hlen:l.length<2147483648) (J:LC->OS S):Bm k l c J=J (jy (l.map (jJ c))):=by
 simp only [Bm,Jl]
 have:=aeo hk J hc hl hlen l [] k [] rfl (by omega) (by grind)
 grind
theorem aea (hk:Fu k) (J:LC×Int->OS S) {g f:LC} (hf:av f) (hg:av g) (hlf:f.length<32768) (hlg:g.length<32768):
  ∀ (r p:LC) (m:Nat) (o:LC),f=p++r->r.length<m->av o->o.length+r.length*g.length<1073741825->um k J g f m (p.length:Int) o=J (du (o++jy (meets r g))):=by
 intro r
 induction r with
 |nil=>
  intro p m o h hm hok ho
  obtain ⟨m,rfl,hm'⟩:=aw hm
  grind [um,zZ,ae,ap,nZ,meets,jy]
 |cons x r ih=>
  intro p m o h hm hok ho
  obtain ⟨m,rfl,hm'⟩:=aw hm
  obtain ⟨e1,e2,e3,e4⟩:=bM h (by omega)
  have hx:cO x:=hf x (by grind)
  have hmul:(x::r).length*g.length=r.length*g.length+g.length:=by grind
  rw [hmul] at ho
  have hcl:=KW (g.map (jJ x))
  rw [List.length_map] at hcl
  simp only [um,zZ,e1,al,e2,aV,ap hk,aiP hk hx hg (show g.length<2147483648 by omega),e3]
  rw [cX (by omega),ih (p++[x]) m _ e4 hm' (nR hok fun c hc=>by
   obtain ⟨b,hb,rfl⟩:=dI.1 (AT hc).1
   exact C1 hx (hg b hb)) (by grind)]
  grind [jy,meets]
theorem aiG (hk:Fu k) {f g:LC} (hf:av f) (hg:av g) (h1:f.length<32768) (h2:g.length<32768) (J:LC×Int->OS S):tD k f g J=J (o8 f g):=by
 simp only [tD,Jo]
 have hb:f.length*g.length<1073741824:=Nat.lt_of_le_of_lt (Nat.mul_le_mul (Nat.le_of_lt_succ h1) (Nat.le_of_lt_succ h2)) (by decide)
 have:=aea hk J hf hg h1 h2 f [] k [] rfl (by omega) (fun c hc=>by cases hc) (by grind)
 grind [o8,sM]
theorem HF {f g:LC} (hf:av f) (hg:av g) (h:(o8 f g).2=0):RFa (o8 f g).1:=Hb (Ok hf hg) h
theorem Ts {s i:Int} {j:Nat} (h:(jQ s i).toNat.testBit j=true):s.toNat.testBit j=true:=by
 grind [jQ,ir,uV]
theorem calm_bits {c:Cl}:fC c=false↔ ∀j,¬ (c.pos.toNat.testBit j=true/\c.neg.toNat.testBit j=true):=by
 unfold fC
 rw [Bool.not_eq_false',decide_eq_true_eq]
 constructor
 ·intro h j ⟨h1,h2⟩
  have:(c.pos.toNat&&&c.neg.toNat).testBit j=true:=by grind
  grind
 ·intro h
  apply Nat.eq_of_testBit_eq
  grind
theorem Mi {c:Cl} {i:Int} (h:fC c=false):fC (gE i c)=false:=by
 rw [calm_bits] at h ⊢
 exact fun j ⟨h1,h2⟩=>h j ⟨Ts h1,Ts h2⟩
def lu (i:Int) (c:Cl) (h:LC) (q:LC×Int):LC×Int:=
 if q.2=0 then if (o8 [gE i c] q.1).2=0 then jG h (o8 [gE i c] q.1).1 else ([],(o8 [gE i c] q.1).2) else ([],q.2)
def jL (i:Int) (r h:LC) (c:Cl):LC×Int:=
 if iY c.pos i then lu i c h (mR r) else if iY c.neg i then lu i c h (nQ r) else jG h [gE i c]
def me (f:LC) (i:Int) (r:LC):LC×Int:=if bV f&&dF r&&tW i then dP (jL i r) [] f else ([],2)
theorem OV {i:Int} {c:Cl} {h:LC} {q:LC×Int} (hh:RFa h) (hq:q.2=0->RFa q.1) (h0:(lu i c h q).2=0):RFa (lu i c h q).1:=by
 unfold lu at h0 ⊢
 split
 ·next h1=>
  rw [if_pos h1] at h0
  split
  ·next h2=>rw [if_pos h2] at h0;exact CI hh (HF (jN (t_ i c)).2 (hq h1).1.2 h2) h0
  grind
 grind
theorem agL {i:Int} {r h:LC} {c:Cl} (hr:RF r) (hh:RFa h) (hc:fC c=false) (h0:(jL i r h c).2=0):RFa (jL i r h c).1:=by
 unfold jL at h0 ⊢
 split
 ·next h1=>rw [if_pos h1] at h0;exact OV hh (fun h=>OB h hr.2) h0
 ·next h1=>
  rw [if_neg h1] at h0
  split
  ·next h2=>rw [if_pos h2] at h0;exact OV hh (fun h=>OC h hr.2) h0
  grind [CI,Rl,t_,Mi]
theorem abS {i:Int} {r:LC} (hr:RF r): ∀ {l h:LC},(∀c∈l,fC c=false)->RFa h->(dP (jL i r) h l).2=0->RFa (dP (jL i r) h l).1:=by
 intro l
 induction l<;>grind [dP,agL]
theorem OW {f r:LC} {i:Int} (hf:av f) (hr:av r) (h:(me f i r).2=0):RFa (me f i r).1:=by
 unfold me at h ⊢
 split
 ·next hc=>
  rw [if_pos hc] at h
  simp only [ak] at hc
  exact abS ((mY hr).1 hc.1.2) ((lz hf).1 hc.1.1).2 Rk h
 grind
theorem faJ (hk:Fu k) (J:LC×Int->OS S) (rec0:Int->LC->OS S) (i:Int) (r f:LC) {h:LC} {v:Int} {g:LC} {e:Int} (hh:RF h) (hg:e=0->RF g):
  ui k J rec0 i r f v h k g e=if e=0 then if (jG h g).2=0 then rec0 (af .i64 (v+1)) (jG h g).1 else J ([],(jG h g).2) else J ([],e):=by
 obtain ⟨q,hq⟩: ∃q,k=q+1:=⟨k-1,by omega⟩
 have: ∀j,j=q+1->ui k J rec0 i r f v h j g e=zV k J i r f v h rec0 g e:=by rintro j rfl;rfl
 rw [this k hq]
 simp only [zV,fc]
 by_cases h0:e=0
 ·have l1:=hh.len;have l2:=(hg h0).len
  rw [decide_eq_true h0,al,if_pos h0,ap hk,R7 hk hh.2 (hg h0).2 (by omega) (by omega)]
  grind [ae,al]
 grind [ae,al]
theorem aeb (hk:Fu k) (J:LC×Int->OS S) {i:Int} {q:LC} (hq:RF q) {l:LC} (hl:av l) (hc: ∀c∈l,fC c=false) (hlen:l.length<2147483648):
  ∀ (r p:LC) (m:Nat) (h:LC),l=p++r->r.length<m->RFa h->qh k J i q l m (p.length:Int) h=J (dP (jL i q) h r):=by
 intro r
 induction r with
 |nil=>
  intro p m h e hm hh
  obtain ⟨m,rfl,hm'⟩:=aw hm
  simp only [qh,vW,eP e,ae];rfl
 |cons x r ih=>
  intro p m h e hm hh
  obtain ⟨m,rfl,hm'⟩:=aw hm
  obtain ⟨e1,e2,e3,e4⟩:=bM e (by omega)
  have hx:cO x:=hl x (by grind)
  have hxc:fC x=false:=hc x (by grind)
  have hg:=Rl (t_ i x) (Mi hxc)
  have key: ∀ (g:LC) (e:Int),(e=0->RFa g)->(jL i q h x=if e=0 then jG h g else ([],e))->ui k J (qh k J i q l m) i q l (p.length:Int) h k g e=J (dP (jL i q) h (x::r)):=by
   intro g e hge hput
   rw [faJ hk _ _ _ _ _ hh.1 (fun h=>(hge h).1),dP,hput]
   grind [CI]
  have em: ∀ (s:LC),RF s-> ∀ (f:LC×Int->OS S),tD k [Cl.mk (jQ x.pos i) (jQ x.neg i)] s f=f (o8 [gE i x] s):=fun s hs f=>aiG hk hg.1.2 hs.2 (by simp) (by have:=hs.len;omega) f
  simp only [qh,vW,e1,al,e2,aV,ap hk,y8 hk hx.1,y8 hk hx.2,ti hk hx.1,ti hk hx.2,R6 hk hq.2 hq.lt,aiE hk hq.2 hq.lt,fc]
  cases hp:iY x.pos i with
  |true=>
   rw [al]
   by_cases h1:(mR q).2=0
   ·have ho:=OB h1 hq.2
    rw [decide_eq_true h1,al,em _ ho.1]
    exact key _ _ (fun h0=>HF hg.1.2 ho.1.2 h0) (by grind [jL,lu])
   grind [ae,jL,lu]
  |false=>
   rw [ae]
   cases hn:iY x.neg i with
   |true=>
    rw [al]
    by_cases h1:(nQ q).2=0
    ·have ho:=OC h1 hq.2
     rw [decide_eq_true h1,al,em _ ho.1]
     exact key _ _ (fun h0=>HF hg.1.2 ho.1.2 h0) (by grind [jL,lu])
    grind [ae,jL,lu]
   |false=>
    grind [ae,gE,jL]
theorem aiF (hk:Fu k) {f r:LC} {i:Int} (hf:av f) (hr:av r) (h1:f.length<2147483648) (h2:r.length<2147483648) (J:LC×Int->OS S):Bk k f i r J=J (me f i r):=by
 simp only [Bk,Jk,ap hk,vt hk hf h1,R1 hk,vr hk hr h2]
 unfold me tW
 cases ha:bV f with
 |false=>rfl
 |true=>
  rw [dT,ae]
  by_cases hd:0<=i/\i<24
  ·rw [decide_eq_true hd,dT,ae]
   cases hb:dF r with
   |false=>rfl
   |true=>
    rw [dT,ae]
    exact aeb hk J ((mY hr).1 hb) hf ((lz hf).1 ha).2 h1 f [] k [] rfl (by omega) Rk
  grind [al]
end Go.Proofs.YtgajalidbabccaaGreatDoor
namespace Go.Proofs.YtgajalidbabccaaGreatDoor
open Go PI
mutual
def aA:Tm->Nat
 | .mk _ _ _ _ ks sys=>1+ax ks+aM sys
def ax:LT->Nat
 |[]=>0
 |t::l=>aA t+ax l
def aM:LB->Nat
 |[]=>0
 |b::l=>jp b+aM l
def jp:Br Tm->Nat
 | .mk _ ks=>ax ks
end
mutual
def ah:Tm->Nat
 | .mk _ _ _ _ ks sys=>max (az ks) (aN sys)+1
def az:LT->Nat
 |[]=>0
 |t::l=>max (ah t) (az l)
def aN:LB->Nat
 |[]=>0
 |b::l=>max (ji b) (aN l)
def ji:Br Tm->Nat
 | .mk _ ks=>az ks
end
theorem pm (b:Br Tm):jp b=ax b.kids:=by cases b;rw [jp]
theorem xq (b:Br Tm):ji b=az b.kids:=by cases b;rw [ji]
theorem po (t:Tm):1<=aA t:=by cases t;rw [aA];omega
theorem pn: ∀ {l:LT} {x:Tm},x∈l->aA x<=ax l:=by
 intro l
 induction l<;>grind [ax]
theorem zc: ∀ {l:LB} {b:Br Tm},b∈l->ax b.kids<=aM l:=by
 intro l
 induction l<;>grind [aM,pm]
theorem Gm: ∀ {l:LT} {x:Tm},x∈l->ah x<=az l:=by
 intro l
 induction l<;>grind [az]
theorem Lf: ∀ {l:LB} {b:Br Tm},b∈l->az b.kids<=aN l:=by
 intro l
 induction l<;>grind [aN,xq]
theorem gi {Q:Tm->Prop} (h: ∀kd n nm r ks sys,(∀x∈ks,Q x)->(∀b∈sys,∀x∈b.kids,Q x)->Q (.mk kd n nm r ks sys)) (t:Tm):Q t:=by
 have: ∀m t,aA t<=m->Q t:=by
  intro m
  induction m with
  |zero=>grind [po]
  |succ m ih=>
   intro t ht
   cases t with
   |mk kd n nm r ks sys=>
    rw [aA] at ht
    refine h _ _ _ _ _ _ (fun x hx=>ih x ?_) fun b hb x hx=>ih x ?_
    ·have:=pn hx;omega
    ·have:=zc hb;have:=pn hx;omega
 exact this _ t (eh _)
def kidsT:List Int:=[-1,0,0,0,2,1,2,2,2,1,1,3,1,3,2,2,1,1,1,0,0,0,4,1,0,0,1,5,2]
def j4 (kd:Int):Int:=if kd<0\/kd>28 then-1 else kidsT.getD kd.toNat 0
def b8 (kd i:Int):Int:=if (i=1/\(kd=4\/kd=7))\/(i=0/\(kd=5\/kd=22\/kd=27)) then 1 else 0
def bL (kd i:Int):Int:=if i=0/\(kd=11\/kd=12\/kd=14) then 1 else 0
def fQ (kd:Int):Int:=if kd=16 then 2 else if kd=15\/kd=17\/kd=18 then 1 else 0
def aS (kd:Int):Int:=if kd=15 then 1 else 0
theorem pG (kd i:Int):0<=b8 kd i/\b8 kd i<=1:=by grind [b8]
theorem iz (kd i:Int):0<=bL kd i/\bL kd i<=1:=by grind [bL]
theorem iZ (kd:Int):0<=aS kd/\aS kd<=1:=by grind [aS]
def sN (c:UInt8):Bool:=(decide (97<=c.toNat)&&decide (c.toNat<=122))||(decide (65<=c.toNat)&&decide (c.toNat<=90))||decide (c.toNat=95)
def xu (c:UInt8):Bool:=decide (48<=c.toNat)&&decide (c.toNat<=57)
def yr:List UInt8->Bool
 |[]=>false
 |c::l=>sN c&&l.all fun d=>sN d||xu d
def bR (kd dims:Int) (b:Br Tm):Bool:=decide ((b.kids.length:Int)=fQ kd)&&(bV b.face&&a7 b.face dims)
def dL (vars dims:Int):Tm->Bool
 | .mk kd n nm r ks sys=>
  (decide (j4 kd=ks.length)&&(decide (kd=1\/n=0)&&(decide (kd=2\/nm.size=0)&&decide (fQ kd=0->sys.length=0))))&&
  (if kd=1 then decide (r.length=0)&&(decide (0<=n)&&decide (vars<0\/n<vars))
   else if kd=2 then decide (r.length=0)&&yr nm.data.toList
   else if kd=13\/kd=21\/kd=26 then dF r&&a7 r dims
   else if kd=14 then bV r&&a7 r dims
   else sys.all (bR kd dims)&&decide (r.length=0))
def cq (vars v:Int):Int:=if vars<0 then vars else vars+v
mutual
def aE (bd:Bool) (vars dims:Int):Tm->Bool
 | .mk kd n nm r ks sys=> !(bd&&decide (dims>24))&&(dL vars dims (.mk kd n nm r ks sys)&&(bO bd vars dims kd 0 ks&&aY bd vars dims kd sys))
def bO (bd:Bool) (vars dims kd:Int) (i:Nat):LT->Bool
 |[]=>true
 |t::l=>aE bd (cq vars (b8 kd i)) (dims+bL kd i) t&&bO bd vars dims kd (i+1) l
def aY (bd:Bool) (vars dims kd:Int):LB->Bool
 |[]=>true
 |b::l=>iQ bd vars dims kd b&&aY bd vars dims kd l
def iQ (bd:Bool) (vars dims kd:Int):Br Tm->Bool
 | .mk _ ks=>cQ bd vars dims kd ks
def cQ (bd:Bool) (vars dims kd:Int):LT->Bool
 |[]=>true
 |t::l=>aE bd vars (dims+aS kd) t&&cQ bd vars dims kd l
end
def ck (t:Tm):Int:=if ah t>200 then 62 else if aA t>20000 then 221 else if aE false (-1) 24 t then 0 else 100
mutual
def OkT:Tm->Prop
 | .mk kd n nm r ks sys=>(aR kd/\aR n/\nm.size<1073741824/\av r/\r.length<1073741824/\ks.length<1073741824/\sys.length<1073741824)/\aU ks/\a_ sys
def aU:LT->Prop
 |[]=>True
 |t::l=>OkT t/\aU l
def a_:LB->Prop
 |[]=>True
 |b::l=>gM b/\a_ l
def gM:Br Tm->Prop
 | .mk f ks=>(av f/\f.length<1073741824/\ks.length<1073741824)/\aU ks
end
theorem okK_iff: ∀ {l:LT},aU l↔ ∀t∈l,OkT t:=by
 intro l
 induction l<;>grind [aU]
theorem sY {b:Br Tm}:gM b↔(av b.face/\b.face.length<1073741824/\b.kids.length<1073741824)/\ ∀t∈b.kids,OkT t:=by
 cases b;rw [gM,okK_iff]
theorem OD: ∀ {l:LB},a_ l↔ ∀b∈l,(av b.face/\b.face.length<1073741824/\b.kids.length<1073741824)/\ ∀t∈b.kids,OkT t:=by
 intro l
 induction l<;>grind [a_,sY]
theorem OkT.node {kd n nm r ks sys} (h:OkT (.mk kd n nm r ks sys)):aR kd/\aR n/\nm.size<1073741824/\av r/\r.length<1073741824/\ks.length<1073741824/\sys.length<1073741824:=by grind [OkT]
theorem OkT.kid {kd n nm r ks sys x} (h:OkT (.mk kd n nm r ks sys)) (hx:x∈ks):OkT x:=by grind [OkT,okK_iff]
theorem OkT.br {kd n nm r ks sys b} (h:OkT (.mk kd n nm r ks sys)) (hb:b∈sys):(av b.face/\b.face.length<1073741824/\b.kids.length<1073741824)/\ ∀t∈b.kids,OkT t:=by grind [OkT,OD]
theorem XU {bd:Bool} {vars dims kd:Int}: ∀ {l:LT},cQ bd vars dims kd l=l.all (aE bd vars (dims+aS kd)):=by
 intro l
 induction l<;>grind [cQ]
theorem rq {bd:Bool} {vars dims kd:Int}: ∀ {l:LB},aY bd vars dims kd l=l.all fun b=>b.kids.all (aE bd vars (dims+aS kd)):=by
 intro l
 induction l with
 |nil=>rfl
 |cons b l ih=>cases b;simp_all [aY,iQ,XU]
set_option maxRecDepth 100000
section
variable {H:Type} {enc:TypeId×Value->H} {w:World} {base:Nat} {spare:Nat->Bool} {held:Bool} {o:Obj} {N:aX} {g:Gh UU}
noncomputable abbrev n3 (enc:TypeId×Value->H) (w:World) (base:Nat) (spare:Nat->Bool) (held:Bool):=DataW.trod enc Tryz.prog w base spare held
def tq (o:Obj) (w:World) (N:aX) (g:Gh UU) (e:ET) (x:EL e) (cs:List Value):Prop:= ∀ (k:Nat) (p:PU),(hX e x)[k]? =some p-> ∃v,cs[k]? =some v/\Rep (LL o) w N g v p
theorem FG {l:List (DataW H)}:l.length<=Rows.uptoBulkAll l:=by
 induction l with
 |nil=>simp [Rows.uptoBulkAll]
 |cons x r ih=>
  have:1<=Rows.uptoBulk x:=by
   cases x with
   |lit l=>cases l<;>simp [Rows.uptoBulk]
   |_=>simp [Rows.uptoBulk]
  simp only [Rows.uptoBulkAll,dv];omega
theorem build {α β:Type} {R:Nat->β->α->Prop}: ∀ (elems:List β) (s:Nat),(∀i d,elems[i]? =some d-> ∃x,R (s+i) d x)-> ∃l:List α,l.length=elems.length/\ ∀i d,elems[i]? =some d-> ∃x,l[i]? =some x/\R (s+i) d x:=by
 intro elems
 induction elems with
 |nil=>intro s h;exact ⟨[],rfl,fun i d h=>by simp at h⟩
 |cons d r ih=>
  intro s h
  obtain ⟨x,hx⟩:=h 0 d rfl
  obtain ⟨l,hl,hr⟩:=ih (s+1) fun i d' hd=>by
   obtain ⟨x,hx⟩:=h (i+1) d' (by simpa using hd)
   exact ⟨x,by rw [show s+1+i=s+(i+1) by omega];exact hx⟩
  refine ⟨x::l,by simp [hl],fun i d' hd=> ?_⟩
  cases i with
  |zero=>injection hd with hd;subst hd;exact ⟨x,rfl,hx⟩
  |succ i=>
   obtain ⟨y,hy,hr⟩:=hr i d' (by simpa using hd)
   exact ⟨y,by simpa using hy,by rw [show s+(i+1)=s+1+i by omega];exact hr⟩
theorem HP (hN: ∀b o,¬N b o) {e:ET} {tS tE:TypeId} (ht:Tryz.prog.underlying tS=some (.slice tE)) (hc:Tryz.prog.cellsOf tE=t7 e) {Q:EL e->DataW H->Prop} {n:Nat} {cs:List Value} {d:DataW H} {pl:List MemPlace}
  (hel: ∀ (cs:List Value) (d:DataW H) (pl:List MemPlace),n3 enc w base spare held n tE cs=some (d,pl)-> ∃x:EL e,tq o w N g e x cs/\Q x d) (h:n3 enc w base spare held (n+1) tS cs=some (d,pl)):
  ∃ (v:Value) (l:List (EL e)) (ds:List (DataW H)),cs=[v]/\Rep (LL o) w N g v (.sl (U:=UU) e l .none)/\l.length=ds.length/\(∀ (i:Nat) (x:EL e) (y:DataW H),l[i]? =some x->ds[i]? =some y->Q x y)/\Rows.uptoBulkAll ds+1<=Rows.uptoBulk d:=by
 rcases DataW.trod_slice ht h with ⟨rfl,hx⟩|⟨a,len,cap,elems,rest,m,hm,rfl,hx,hb,hl,hcp,hlen,hee,_,_⟩
 ·injection hx with hx _
  subst hx
  exact ⟨_,[],[],rfl,Rep.sl (X:=LL o) (N:=N) (g:=g) none 0 0 e (show List (EL e) from []) .none (fun _ _=>undef) rfl (eh _) trivial (fun j x hx=>by cases hx) (fun j x hx=>by cases hx),rfl,fun i x y h=>by simp at h,by simp [Rows.uptoBulkAll,Rows.uptoBulk]⟩
 ·obtain rfl:n=m:=by omega
  injection hx with hx _
  subst hx
  obtain ⟨l,hll,hlr⟩:=build (R:=fun i (y:DataW H×List MemPlace) (x:EL e)=> ∃cs',w.cells? base (a.add (i*Tryz.prog.cellsOf tE)) (Tryz.prog.cellsOf tE)=some cs'/\tq o w N g e x cs'/\Q x y.1) elems 0 fun i y hy=>by
   have hi:i<len:=by rw [<-hlen];exact (it.1 hy).1
   have:=hee i hi
   rw [hy] at this
   obtain ⟨cs',h1,h2⟩:=Option.bind_eq_some_iff.1 this
   obtain ⟨x,hx1,hx2⟩:=hel cs' y.1 y.2 h2
   exact ⟨x,cs',by simpa using h1,hx1,hx2⟩
  have hget: ∀ (j:Nat) (x:EL e),l[j]? =some x-> ∃ (y:DataW H×List MemPlace) (cs':List Value),elems[j]? =some y/\w.cells? base (a.add (j*Tryz.prog.cellsOf tE)) (Tryz.prog.cellsOf tE)=some cs'/\tq o w N g e x cs'/\Q x y.1:=fun j x hx=>by
   have hj:j<elems.length:=by rw [<-hll];exact (it.1 hx).1
   obtain ⟨x',hx',cs',h1,h2,h3⟩:=hlr j _ (fM hj)
   rw [hx] at hx'
   injection hx' with hx'
   subst hx'
   exact ⟨_,cs',fM hj,by simpa using h1,h2,h3⟩
  have hcell: ∀ (j:Nat) (x:EL e),l[j]? =some x-> ∀ (k:Nat) (p:PU),(hX e x)[k]? =some p-> ∃v,w.cell? (a.add (j*(LL o).esize e+k))=some v/\Rep (LL o) w N g v p:=fun j x hx k p hp=>by
   obtain ⟨y,cs',_,h1,h2,_⟩:=hget j x hx
   obtain ⟨v,hv,hr⟩:=h2 k p hp
   obtain ⟨_,hl',hcs⟩:=World.cells?_some h1
   have hk:k<Tryz.prog.cellsOf tE:=by rw [<-hl'];exact (it.1 hv).1
   have:=hcs k hk
   rw [hv,Go.Deep.add_add,hc] at this
   exact ⟨v,this,hr⟩
  refine ⟨_,l,elems.map (·.1),rfl,Rep.sl (X:=LL o) (some a) len cap e l .none (fun j k=>(w.cell? (a.add (j*(LL o).esize e+k))).getD undef) (by rw [<-hlen];exact hll) hl trivial (fun j x hx k p hp=> ?_) (fun j x hx k p hp=> ?_),by simpa using hll,fun i x y hx hy=> ?_,by simp [Rows.uptoBulk]⟩
  ·obtain ⟨v,hv,_⟩:=hcell j x hx k p hp
   exact ⟨a,rfl,by simp [hv],hN _ _⟩
  ·obtain ⟨v,hv,hr⟩:=hcell j x hx k p hp
   simp only [hv];exact hr
  ·obtain ⟨y',cs',h1,_,_,h3⟩:=hget i x hx
   have:y=y'.1:=by
    rw [List.getElem?_map,h1] at hy
    injection hy with hy;exact hy.symm
   subst this
   exact h3
theorem HO {n:Nat} {cs:List Value} {d:DataW H} {pl:List MemPlace} (h:n3 enc w base spare held n 3 cs=some (d,pl)): ∃z,cs=[.int .i64 z]/\aR z:=by
 obtain ⟨z,rfl,_,hw⟩:=DataW.trod_int Tryz.underlying3 h
 refine ⟨z,rfl, ?_⟩
 simp [Lit.wf,IntKind.has] at hw
 have h1:IntKind.i64.min= -9223372036854775808:=rfl
 have h2:IntKind.i64.max=9223372036854775807:=rfl
 unfold aR
 omega
theorem OH {n:Nat} {cs:List Value} {d:DataW H} {pl:List MemPlace} (h:n3 enc w base spare held n 51 cs=some (d,pl)): ∃z,cs=[.int .u32 z]/\U32 z:=by
 obtain ⟨z,rfl,_,hw⟩:=DataW.trod_int Tryz.underlying51 h
 refine ⟨z,rfl, ?_⟩
 simp [Lit.wf,IntKind.has] at hw
 have h1:IntKind.u32.min=0:=rfl
 have h2:IntKind.u32.max=4294967295:=rfl
 unfold U32
 omega
def QC (c:Cl) (d:DataW H):Prop:=cO c
def QT (t:Tm) (d:DataW H):Prop:=aA t<=Rows.uptoBulk d/\(Rows.uptoBulk d<1073741824->OkT t)
def QB (b:Br Tm) (d:DataW H):Prop:=jp b<=Rows.uptoBulk d/\(Rows.uptoBulk d<1073741824->(av b.face/\b.face.length<1073741824/\b.kids.length<1073741824)/\ ∀t∈b.kids,OkT t)
theorem agk {n:Nat} {cs:List Value} {d:DataW H} {pl:List MemPlace} (h:n3 enc w base spare held n 53 cs=some (d,pl)): ∃x:EL ET.C,tq o w N g ET.C x cs/\QC (show Cl from x) d:=by
 obtain ⟨xs,m,rfl,_,hl,hlen,hf⟩:=DataW.trod_struct Tryz.underlying53 h
 have hl2:cs.length=2:=hl.trans (by kernel_rfl)
 match cs,hl2,xs,hlen with
 |[a,b],_,[y0,y1],_=>
 have h0:=hf 0 _ rfl
 have h1:=hf 1 _ rfl
 have c51:Tryz.prog.cellsOf 51=1:=by kernel_rfl
 simp [c51] at h0 h1
 obtain ⟨z0,e0,k0⟩:=OH h0
 obtain ⟨z1,e1,k1⟩:=OH h1
 obtain rfl:a= .int .u32 z0:=by simpa using e0
 obtain rfl:b= .int .u32 z1:=by simpa using e1
 refine ⟨(⟨z0,z1⟩:Cl),fun k p hp=> ?_,⟨k0,k1⟩⟩
 match k,hp with
 |0,hp=>cases hp;exact ⟨_,rfl,.int _ _⟩
 |1,hp=>cases hp;exact ⟨_,rfl,.int _ _⟩
 |k+2,hp=>simp [hX] at hp
theorem ajV {l:List Tm} {ds:List (DataW H)} (hl:l.length=ds.length) (h: ∀ (i:Nat) (x:Tm) (y:DataW H),l[i]? =some x->ds[i]? =some y->QT x y):ax l<=Rows.uptoBulkAll ds/\(Rows.uptoBulkAll ds<1073741824-> ∀t∈l,OkT t):=by
 induction l generalizing ds with
 |nil=>rw [ax];exact ⟨Nat.zero_le _,fun _ t ht=>by cases ht⟩
 |cons t l ih=>
  cases ds with
  |nil=>cases hl
  |cons d ds=>
   obtain ⟨h1,h2⟩:=h 0 t d rfl rfl
   obtain ⟨i1,i2⟩:=ih (ds:=ds) (by simpa using hl) fun i x y hx hy=>h (i+1) x y (by simpa using hx) (by simpa using hy)
   rw [ax,Rows.uptoBulkAll]
   refine ⟨by omega,fun hb u hu=> ?_⟩
   rcases eb.1 hu with rfl|hu
   ·exact h2 (by omega)
   ·exact i2 (by omega) u hu
theorem ajW {l:List (Br Tm)} {ds:List (DataW H)} (hl:l.length=ds.length) (h: ∀ (i:Nat) (x:Br Tm) (y:DataW H),l[i]? =some x->ds[i]? =some y->QB x y):aM l<=Rows.uptoBulkAll ds/\(Rows.uptoBulkAll ds<1073741824->a_ l):=by
 induction l generalizing ds with
 |nil=>rw [aM,a_];exact ⟨Nat.zero_le _,fun _=>trivial⟩
 |cons t l ih=>
  cases ds with
  |nil=>cases hl
  |cons d ds=>
   obtain ⟨h1,h2⟩:=h 0 t d rfl rfl
   obtain ⟨i1,i2⟩:=ih (ds:=ds) (by simpa using hl) fun i x y hx hy=>h (i+1) x y (by simpa using hx) (by simpa using hy)
   rw [aM,Rows.uptoBulkAll,a_,sY]
   exact ⟨by omega,fun hb=>⟨h2 (by omega),i2 (by omega)⟩⟩
theorem OG (hN: ∀b o,¬N b o) {n:Nat} {cs:List Value} {d:DataW H} {pl:List MemPlace} (h:n3 enc w base spare held n 22 cs=some (d,pl)):
  ∃ (v:Value) (l:List Cl),cs=[v]/\Rep (LL o) w N g v (dS l .none)/\av l/\l.length+1<=Rows.uptoBulk d:=by
 cases n with
 |zero=>cases h
 |succ n=>
  obtain ⟨v,l,ds,rfl,hr,hl,hq,hb⟩:=HP (e:=ET.C) (Q:=fun x d=>QC (show Cl from x) d) hN Tryz.underlying22 (by kernel_rfl) (fun cs d pl h=>agk h) h
  refine ⟨v,l,rfl,hr,fun c hc=> ?_, ?_⟩
  ·obtain ⟨i,hi⟩:=List.getElem?_of_mem hc
   have hlt:i<ds.length:=by rw [<-hl];exact (it.1 hi).1
   exact hq i c _ hi (fM hlt)
  ·have:=FG (l:=ds)
   have hl': @List.length Cl l=ds.length:=hl
   omega
theorem agj (hN: ∀b o,¬N b o): ∀ (n:Nat),
  (∀ (cs:List Value) (d:DataW H) (pl:List MemPlace),n3 enc w base spare held n 26 cs=some (d,pl)-> ∃x:EL ET.T,tq o w N g ET.T x cs/\QT (show Tm from x) d)/\
  (∀ (cs:List Value) (d:DataW H) (pl:List MemPlace),n3 enc w base spare held n 48 cs=some (d,pl)-> ∃x:EL ET.B,tq o w N g ET.B x cs/\QB (show Br Tm from x) d)/\
  (∀ (cs:List Value) (d:DataW H) (pl:List MemPlace),n3 enc w base spare held n 23 cs=some (d,pl)-> ∃ (v:Value) (l:List Tm),cs=[v]/\Rep (LL o) w N g v (jq l .none)/\ax l+1<=Rows.uptoBulk d/\l.length+1<=Rows.uptoBulk d/\(Rows.uptoBulk d<1073741824-> ∀t∈l,OkT t))/\
  (∀ (cs:List Value) (d:DataW H) (pl:List MemPlace),n3 enc w base spare held n 24 cs=some (d,pl)-> ∃ (v:Value) (l:List (Br Tm)),cs=[v]/\Rep (LL o) w N g v (eK l .none)/\aM l+1<=Rows.uptoBulk d/\l.length+1<=Rows.uptoBulk d/\(Rows.uptoBulk d<1073741824->a_ l)):=by
 intro n
 induction n with
 |zero=>exact ⟨fun cs d pl h=>(by cases h),fun cs d pl h=>(by cases h),fun cs d pl h=>(by cases h),fun cs d pl h=>(by cases h)⟩
 |succ n ih=>
 obtain ⟨iT,iB,iK,iS⟩:=ih
 have c3:Tryz.prog.cellsOf 3=1:=by kernel_rfl
 have c9:Tryz.prog.cellsOf 9=1:=by kernel_rfl
 have c22:Tryz.prog.cellsOf 22=1:=by kernel_rfl
 have c23:Tryz.prog.cellsOf 23=1:=by kernel_rfl
 have c24:Tryz.prog.cellsOf 24=1:=by kernel_rfl
 refine ⟨fun cs d pl h=> ?_,fun cs d pl h=> ?_,fun cs d pl h=> ?_,fun cs d pl h=> ?_⟩
 ·obtain ⟨xs,m,hm,hx,hl,hlen,hf⟩:=DataW.trod_struct Tryz.underlying26 h
  obtain rfl:n=m:=by omega
  injection hx with hx _
  subst hx
  have hl6:cs.length=6:=hl.trans (by kernel_rfl)
  match cs,hl6,xs,hlen with
  |[a0,a1,a2,a3,a4,a5],_,[y0,y1,y2,y3,y4,y5],_=>
  have h0:=hf 0 _ rfl
  have h1:=hf 1 _ rfl
  have h2:=hf 2 _ rfl
  have h3:=hf 3 _ rfl
  have h4:=hf 4 _ rfl
  have h5:=hf 5 _ rfl
  simp [c3,c9,c22,c23,c24] at h0 h1 h2 h3 h4 h5
  obtain ⟨z0,e0,k0⟩:=HO h0
  obtain ⟨z1,e1,k1⟩:=HO h1
  obtain ⟨s,e2,k2,_⟩:=DataW.trod_string Tryz.underlying9 h2
  obtain ⟨v3,l3,e3,r3,k3,m3⟩:=OG (o:=o) (g:=g) hN h3
  obtain ⟨v4,l4,e4,r4,k4,m4,q4⟩:=iK _ _ _ h4
  obtain ⟨v5,l5,e5,r5,k5,m5,q5⟩:=iS _ _ _ h5
  obtain rfl:a0= .int .i64 z0:=by simpa using e0
  obtain rfl:a1= .int .i64 z1:=by simpa using e1
  obtain rfl:a2= .string s:=by simpa using e2
  obtain rfl:a3=v3:=by simpa using e3
  obtain rfl:a4=v4:=by simpa using e4
  obtain rfl:a5=v5:=by simpa using e5
  have hs:s.size<Rows.uptoBulk y2.1:=by
   rw [k2]
   simp [Rows.uptoBulk]
  refine ⟨Tm.mk z0 z1 s l3 l4 l5,fun k p hp=> ?_, ?_,fun hb=> ?_⟩
  ·match k,hp with
   |0,hp=>cases hp;exact ⟨_,rfl,.int _ _⟩
   |1,hp=>cases hp;exact ⟨_,rfl,.int _ _⟩
   |2,hp=>cases hp;exact ⟨_,rfl,.str _⟩
   |3,hp=>cases hp;exact ⟨_,rfl,r3⟩
   |4,hp=>cases hp;exact ⟨_,rfl,r4⟩
   |5,hp=>cases hp;exact ⟨_,rfl,r5⟩
   |k+6,hp=>simp [hX] at hp
  ·show aA _<=_
   rw [aA]
   simp only [jc,List.map_nil,Rows.uptoBulk,Rows.uptoBulkAll]
   omega
  ·simp only [jc,List.map_nil,Rows.uptoBulk,Rows.uptoBulkAll] at hb
   show OkT _
   rw [OkT,okK_iff]
   exact ⟨⟨k0,k1,by omega,k3,by omega,by omega,by omega⟩,q4 (by omega),q5 (by omega)⟩
 ·obtain ⟨xs,m,hm,hx,hl,hlen,hf⟩:=DataW.trod_struct Tryz.underlying48 h
  obtain rfl:n=m:=by omega
  injection hx with hx _
  subst hx
  have hl2:cs.length=2:=hl.trans (by kernel_rfl)
  match cs,hl2,xs,hlen with
  |[a0,a1],_,[y0,y1],_=>
  have h0:=hf 0 _ rfl
  have h1:=hf 1 _ rfl
  simp [c22,c23] at h0 h1
  obtain ⟨v3,l3,e3,r3,k3,m3⟩:=OG (o:=o) (g:=g) hN h0
  obtain ⟨v4,l4,e4,r4,k4,m4,q4⟩:=iK _ _ _ h1
  obtain rfl:a0=v3:=by simpa using e3
  obtain rfl:a1=v4:=by simpa using e4
  refine ⟨Br.mk l3 l4,fun k p hp=> ?_, ?_,fun hb=> ?_⟩
  ·match k,hp with
   |0,hp=>cases hp;exact ⟨_,rfl,r3⟩
   |1,hp=>cases hp;exact ⟨_,rfl,r4⟩
   |k+2,hp=>simp [hX] at hp
  ·show jp _<=_
   rw [jp]
   simp only [jc,List.map_nil,Rows.uptoBulk,Rows.uptoBulkAll]
   omega
  ·simp only [jc,List.map_nil,Rows.uptoBulk,Rows.uptoBulkAll] at hb
   exact ⟨⟨k3,by show l3.length<_;omega,by show l4.length<_;omega⟩,q4 (by omega)⟩
 ·obtain ⟨v,l,ds,rfl,hr,hl,hq,hb⟩:=HP (e:=ET.T) (Q:=fun x d=>QT (show Tm from x) d) hN Tryz.underlying23 (by kernel_rfl) iT h
  obtain ⟨s1,s2⟩:=ajV (l:=l) hl hq
  have:=FG (l:=ds)
  have hl': @List.length Tm l=ds.length:=hl
  exact ⟨v,l,rfl,hr,by omega,by omega,fun hd=>s2 (by omega)⟩
 ·obtain ⟨v,l,ds,rfl,hr,hl,hq,hb⟩:=HP (e:=ET.B) (Q:=fun x d=>QB (show Br Tm from x) d) hN Tryz.underlying24 (by kernel_rfl) iB h
  obtain ⟨s1,s2⟩:=ajW (l:=l) hl hq
  have:=FG (l:=ds)
  have hl': @List.length (Br Tm) l=ds.length:=hl
  exact ⟨v,l,rfl,hr,by omega,by omega,fun hd=>s2 (by omega)⟩
end
end Go.Proofs.YtgajalidbabccaaGreatDoor
namespace Go.Proofs
open Go.Shelf
def Tryz.sortCl_ren:Go.Shelf.Ren:=⟨fun|6=>230|15=>280|14=>279|28=>311|29=>312|20=>303|21=>304|22=>305|23=>306|24=>307|25=>308|26=>309|27=>310|46=>328|47=>329|48=>330|49=>331|50=>332|57=>338|n=>n,fun|22=>22|24=>53|25=>177|3=>3|39=>178|0=>0|53=>51|55=>197|4=>4|46=>213|45=>212|50=>217|5=>5|9=>9|66=>221|70=>225|76=>231|77=>63|n=>n,fun|n=>n⟩
theorem Tryz.sortCl:Go.Proofs.SlLaysF0.n6 Tryz.prog Tryz.sortCl_ren:={
 mixed:=by kernel_rfl
 f6:=⟨Tryz.f230.name,by decide,Tryz.func230.trans (congrArg some (by kernel_rfl))⟩
 f14:=⟨Tryz.f279.name,by decide,Tryz.func279.trans (congrArg some (by kernel_rfl))⟩
 f15:=Tryz.func280.trans (congrArg some (by kernel_rfl))
 f20:=⟨Tryz.f303.name,by decide,Tryz.func303.trans (congrArg some (by kernel_rfl))⟩
 f21:=⟨Tryz.f304.name,by decide,Tryz.func304.trans (congrArg some (by kernel_rfl))⟩
 f22:=⟨Tryz.f305.name,by decide,Tryz.func305.trans (congrArg some (by kernel_rfl))⟩
 f23:=⟨Tryz.f306.name,by decide,Tryz.func306.trans (congrArg some (by kernel_rfl))⟩
 f24:=⟨Tryz.f307.name,by decide,Tryz.func307.trans (congrArg some (by kernel_rfl))⟩
 f25:=⟨Tryz.f308.name,by decide,Tryz.func308.trans (congrArg some (by kernel_rfl))⟩
 f26:=⟨Tryz.f309.name,by decide,Tryz.func309.trans (congrArg some (by kernel_rfl))⟩
 f27:=⟨Tryz.f310.name,by decide,Tryz.func310.trans (congrArg some (by kernel_rfl))⟩
 f28:=Tryz.func311.trans (congrArg some (by kernel_rfl))
 f29:=Tryz.func312.trans (congrArg some (by kernel_rfl))
 f46:=⟨Tryz.f328.name,by decide,Tryz.func328.trans (congrArg some (by kernel_rfl))⟩
 f47:=Tryz.func329.trans (congrArg some (by kernel_rfl))
 f48:=Tryz.func330.trans (congrArg some (by kernel_rfl))
 f49:=⟨Tryz.f331.name,by decide,Tryz.func331.trans (congrArg some (by kernel_rfl))⟩
 f50:=⟨Tryz.f332.name,by decide,Tryz.func332.trans (congrArg some (by kernel_rfl))⟩
 f57:=⟨Tryz.f338.name,by decide,Tryz.func338.trans (congrArg some (by kernel_rfl))⟩
 t0:=Tryz.underlying0
 a0:=Tryz.isAgg0
 z0:=Tryz.sizeOf0
 v0:=Tryz.zeroValue0
 t3:=Tryz.underlying3
 a3:=Tryz.isAgg3
 z3:=Tryz.sizeOf3
 v3:=Tryz.zeroValue3
 t4:=Tryz.underlying4
 a4:=Tryz.isAgg4
 z4:=Tryz.sizeOf4
 v4:=Tryz.zeroValue4
 t5:=Tryz.underlying5
 a5:=Tryz.isAgg5
 z5:=Tryz.sizeOf5
 v5:=Tryz.zeroValue5
 t9:=Tryz.underlying9
 a9:=Tryz.isAgg9
 z9:=Tryz.sizeOf9
 v9:=Tryz.zeroValue9
 t22:=Tryz.underlying22
 a22:=Tryz.isAgg22
 z22:=Tryz.sizeOf22
 v22:=Tryz.zeroValue22
 t25:=Tryz.underlying177
 a25:=Tryz.isAgg177
 z25:=Tryz.sizeOf177
 v25:=Tryz.zeroValue177
 t39:=Tryz.underlying178
 a39:=Tryz.isAgg178
 z39:=Tryz.sizeOf178
 v39:=Tryz.zeroValue178
 t45:=Tryz.underlying212
 a45:=Tryz.isAgg212
 z45:=Tryz.sizeOf212
 v45:=Tryz.zeroValue212
 t46:=Tryz.underlying213
 a46:=Tryz.isAgg213
 z46:=Tryz.sizeOf213
 v46:=Tryz.zeroValue213
 t50:=Tryz.underlying217
 a50:=Tryz.isAgg217
 z50:=Tryz.sizeOf217
 v50:=Tryz.zeroValue217
 t53:=Tryz.underlying51
 a53:=Tryz.isAgg51
 z53:=Tryz.sizeOf51
 v53:=Tryz.zeroValue51
 t55:=Tryz.underlying197
 a55:=Tryz.isAgg197
 z55:=Tryz.sizeOf197
 v55:=Tryz.zeroValue197
 t66:=Tryz.underlying221
 a66:=Tryz.isAgg221
 z66:=Tryz.sizeOf221
 v66:=Tryz.zeroValue221
 t70:=Tryz.underlying225
 a70:=Tryz.isAgg225
 z70:=Tryz.sizeOf225
 v70:=Tryz.zeroValue225
 t76:=Tryz.underlying231
 a76:=Tryz.isAgg231
 z76:=Tryz.sizeOf231
 v76:=Tryz.zeroValue231
 t77:=Tryz.underlying63
 a77:=Tryz.isAgg63
 z77:=Tryz.sizeOf63
 v77:=Tryz.zeroValue63}
end Go.Proofs
namespace Go.Proofs.YtgajalidbabccaaGreatDoor
open Go PI
set_option maxRecDepth 100000
noncomputable section
def abG:Nat:=314
def abH:Nat:=91
noncomputable def IH {S:Type}:List PU->List (Box UU)->(Out UU->Option S)->Option S
 |[.sl .C y0 .none],[],κ=>u4 y0 fun r=>κ (.ret (dS r .none) [])
 |_,_,_=> .none
noncomputable def IG {S:Type}:List PU->List (Box UU)->(Out UU->Option S)->Option S
 |[.int .u32 y0],[],κ=>yF y0 fun r=>κ (.ret (qI r .none) [])
 |_,_,_=> .none
end
end Go.Proofs.YtgajalidbabccaaGreatDoor
namespace Go.Proofs
open Go.Shelf Go.RowKit
set_option maxHeartbeats 1000000 in
theorem Tryz.tz32_core (x k idx:Nat) (w:World) (hx0:((x:Int)==0)=false)
  (key:bits BinOp.and IntKind.u32 (x:Int) (-(x:Int)%4294967296)*125613361%4294967296/134217728=(idx:Int))
  (hi:idx<32) (hk:k<32) (hcell:w.cell? ⟨0,idx,none⟩=some (.int .u8 k)):
  Calls Tryz.prog 340 #[.int .u32 x] w fun e w'=>e= .returned (.int .i64 k)/\w'=w:=by
 go_enter Tryz.func340,Tryz.ntmps340
 go_wp2_with (simp only [key])
 go_ret
 exact ⟨rfl,rfl⟩
theorem Tryz.tz32 (x:Nat) (hx:x<4294967296) (h0:x≠0) (w:World) (hT:TabAt 0 Lib.deBruijn32tab w):
  Calls Tryz.prog 340 #[.int .u32 x] w fun e w'=>e= .returned (.int .i64 (Lib.ctz 32 x))/\w'=w:=by
 obtain ⟨hlow,hk⟩:=Lib.lowest_bit 32 x h0 hx
 obtain ⟨hi,htab⟩:=Lib.deBruijn32_at _ hk
 have hcell:=hT _ hi
 rw [htab] at hcell
 exact Tryz.tz32_core x _ _ w (by simp;omega) (tz32_key x _ hx h0 hlow) hi hk hcell
end Go.Proofs
namespace Go.Proofs.YtgajalidbabccaaGreatDoor
open Go Go.Shelf Go.RowKit
attribute [local go_sem] Oper.semAt_some
def jO (s:Nat):List Nat:=(fY 24).filter s.testBit
theorem akn (s:Nat) (h0:s≠0) (h:s<16777216):jO s=Lib.ctz 32 s::jO (s&&&(s-1))/\s&&&(s-1)<s:=by
 obtain ⟨m,hm,hk⟩:=Lib.ctzFrom_spec 32 s (by omega) (by omega)
 have e:Lib.ctz 32 s=Lib.ctzFrom 32 s:=by simp [Lib.ctz,h0]
 rw [e]
 generalize Lib.ctzFrom 32 s=t at hm hk
 have hs:s=2^(t+1)*m+2^t:=by
  rw [hm,Nat.mul_add,Nat.mul_one,Nat.pow_succ,<-Nat.mul_assoc]
 have hp:0<2^t:=Nat.two_pow_pos t
 have hp2:2^(t+1)=2^t*2:=Nat.pow_succ 2 t
 have hs1:s-1=2^(t+1)*m+(2^t-1):=by omega
 have b1: ∀j,s.testBit j=if j<t+1 then decide (t=j) else m.testBit (j-(t+1)):=fun j=>by
  rw [hs,Nat.testBit_two_pow_mul_add _ (by omega),Nat.testBit_two_pow]
 have b2: ∀j,(s-1).testBit j=if j<t+1 then decide (j<t) else m.testBit (j-(t+1)):=fun j=>by
  rw [hs1,Nat.testBit_two_pow_mul_add _ (by omega),Nat.testBit_two_pow_sub_one]
 have b3: ∀j,(s&&&(s-1)).testBit j=if j<t+1 then false else m.testBit (j-(t+1)):=fun j=>by
  rw [Nat.testBit_and,b1,b2]
  by_cases hj:j<t+1
  ·rw [if_pos hj,if_pos hj,if_pos hj]
   by_cases ht:t=j
   ·rw [decide_eq_true ht,decide_eq_false (by omega)];rfl
   ·rw [decide_eq_false ht];rfl
  ·rw [if_neg hj,if_neg hj,if_neg hj,Bool.and_self]
 have b4:s&&&(s-1)=2^(t+1)*m:=by
  apply Nat.eq_of_testBit_eq
  intro j
  rw [b3]
  have:2^(t+1)*m=2^(t+1)*m+0:=rfl
  rw [this,Nat.testBit_two_pow_mul_add _ (by omega),Nat.zero_testBit]
 have ht:t<24:=by
  apply Nat.lt_of_not_le
  intro hle
  have:2^24<=2^t:=Nat.pow_le_pow_right (by decide) hle
  have h24:(2:Nat)^24=16777216:=by decide
  omega
 refine ⟨?_,by omega⟩
 unfold jO
 have hr:fY 24=fY t++(t::(fY (23-t)).map (fun j=>t+1+j)):=by
  apply List.ext_getElem
  ·simp;omega
  ·intro i h1 h2
   simp only [List.getElem_range]
   by_cases hi:i<t
   ·rw [List.getElem_append_left (by simpa using hi)];simp
   ·rw [List.getElem_append_right (by simpa using hi)]
    simp only [List.length_range]
    by_cases he:i=t
    ·subst he;simp
    ·obtain ⟨d,rfl⟩: ∃d,i=t+1+d:=⟨i-t-1,by omega⟩
     simp only [show t+1+d-t=d+1 by omega,List.getElem_cons_succ,List.getElem_map,List.getElem_range]
 rw [hr,List.filter_append,List.filter_append]
 have f1:(fY t).filter s.testBit=[]:=List.filter_eq_nil_iff.2 fun j hj=>by
  have:=List.mem_range.1 hj
  rw [b1,if_pos (by omega),decide_eq_false (by omega)];decide
 have f2:(fY t).filter (s&&&(s-1)).testBit=[]:=List.filter_eq_nil_iff.2 fun j hj=>by
  have:=List.mem_range.1 hj
  rw [b3,if_pos (by omega)];decide
 rw [f1,f2,fq,fq,List.filter_cons_of_pos (by rw [b1,if_pos (by omega)];simp),List.filter_cons_of_neg (by rw [b3,if_pos (by omega)];decide)]
 congr 1
 apply List.filter_congr
 intro j hj
 obtain ⟨d,_,rfl⟩:=dI.1 hj
 rw [b1,b3,if_neg (by omega),if_neg (by omega)]
theorem akl:jO 0=[]:=List.filter_eq_nil_iff.2 fun j _=>by rw [Nat.zero_testBit];decide
theorem akm (s:Nat):(jO s).length<=24:=by
 have:=List.length_filter_le s.testBit (fY 24)
 simpa [jO] using this
theorem acp (s:Int) (w:World):Calls Tryz.prog 333 #[.int .u32 s] w fun e w'=>e= .returned (.func (.func 339) #[] #[.pointer (some ⟨w.heap.size,0,none⟩)])/\w'=w.alloc (.cells #[.int .u32 s] 51):=by
 go_enter Tryz.func333,Tryz.ntmps333
 go_wp2
 go_ret
 exact ⟨rfl,rfl⟩
def Hq:Code:=(Code.region 3 #[{dst:=some 4,op:=Op.assign (Operand.tmp 7),type:=3,pos:= "mask.go:57",after:= #[],guard:=none}] false)
def Hr:Code:=(Code.block 1 (Code.region 4 #[{dst:=some 8,op:=Op.load 98 (Operand.tmp 3),type:=98,pos:= "mask.go:58",after:= #[],guard:=none},{dst:=some 9,op:=Op.move (Operand.tmp 4),type:=3,pos:= "mask.go:58",after:= #[],guard:=none},{dst:=some 10,op:=Op.buildSlice 98 1 #[(0,Operand.tmp 9)],type:=98,pos:= "mask.go:58",after:= #[{on:=1,ground:=Ground.data}],guard:=none},{dst:=some 11,op:=Op.call {callee:=Callee.builtin Builtin.append,args:= #[Operand.tmp 8,Operand.tmp 10],argTypes:= #[98,98]},type:=98,pos:= "mask.go:58",after:= #[{on:=0,ground:=Ground.data},{on:=2,ground:=Ground.data}],guard:=none},{dst:=none,op:=Op.store 98 (Operand.tmp 3) (Operand.tmp 11),type:=0,pos:= "mask.go:58",after:= #[{on:=3,ground:=Ground.data},{on:=3,ground:=Ground.chain},{on:=0,ground:=Ground.phase},{on:=1,ground:=Ground.phase},{on:=2,ground:=Ground.phase},{on:=3,ground:=Ground.phase}],guard:=none}] false))
def mP (fn:FuncId) (s0:Int) (fv:Value) (Bo D:Nat) (st:LoopState) (pend:Option Code):Loop:=
 {state:=st,pending:=pend,fn,tmps:= #[.int .u32 s0,undef,.slice none 0 0,.pointer (some ⟨Bo,0,none⟩),undef,.int .u32 s0,fv,undef,undef,undef,undef,undef,undef],params:= #[7],assign:=Hq,body:=Hr,defers:=D}
def km (x:Nat):Value:= .int .i64 (x:Int)
structure LsAt (w0:World) (fn:FuncId) (s0:Int) (fv:Value) (Bo l D:Nat) (ss:List Nat) (W:World):Prop where
 box: ∃v,W.heap[Bo]? =some (.cells #[v] 98 (0,0))/\W.ownsRow w0.heap.size 3 1 v ss.length (ss.map km)
 L:W.heap[l]? =some (.loop (mP fn s0 fv Bo D .ready none))
 K:W.heap[D]? =some (.deferred (some []))
 below:Below w0.heap.size w0 W
theorem u5 (W:World) (l:Nat) (o:Obj):W.grownBy (W.putObj l o) (some l):=
 ⟨rfl,rfl,rfl,by simp,fun k _ hk=>World.putObj_heap_other (fun e=>hk (by rw [e]))⟩
theorem I4 (W:World) (b:Nat) (v:Value):W.grownBy (W.setCell ⟨b,0,none⟩ v) (some b):=
 ⟨rfl,rfl,rfl,(KeepsWalks.setCell W _ v).size,fun k _ hk=>Below.heap_setCell _ _ _ k (fun e=>hk (by rw [e]))⟩
theorem qw {W:World} {base:Nat} {e:TypeId} {size:Nat} {v:Value} {k:Nat} {xs:List Value} (h:W.ownsRow base e size v k xs) {j:Nat} {o:Obj} (hj:W.heap[j]? =some o) (hno: ∀cur,o≠ .cells cur e (0,0)):
  v.ownBlock=none\/v.ownBlock≠some j:=by
 rcases h.2 with ⟨rfl,_⟩|⟨g,cap,cur,rfl,_,hgb,_⟩
 ·exact .inl rfl
 ·refine .inr fun e'=> ?_
  have:g=j:=by simpa [Value.ownBlock] using e'
  subst this;rw [hgb] at hj;cases hj;exact hno cur rfl
theorem rz {W:World} {B:Nat} {v:Value} {t:TypeId} (h:W.heap[B]? =some (.cells #[v] t (0,0))):W.cell? ⟨B,0,none⟩=some v/\W.frozen? ⟨B,0,none⟩=false:=by
 constructor<;>simp [World.cell?,World.frozen?,h]
theorem FC {W:World} {B:Nat} {v:Value} {t:TypeId} (v':Value) (h:W.heap[B]? =some (.cells #[v] t (0,0))):(W.setCell ⟨B,0,none⟩ v').heap[B]? =some (.cells #[v'] t (0,0)):=by
 obtain ⟨hlt,hk⟩:=jt.1 h
 show (W.heap.modify B _)[B]? =_
 rw [Array.getElem?_eq_getElem (by rw [Array.size_modify];exact hlt),Array.getElem_modify_self,hk]
 rfl
theorem acr:(Tryz.prog.info? 3).map (fun i=>(i.zero,i.size,i.bytes))=some (some (.int .i64 0),1,8):=by kernel_rfl
set_option maxRecDepth 100000 in
set_option maxHeartbeats 2000000 in
theorem afs (F:Fence) (m:Nat) (w0:World) (fn:FuncId) (hfn:F.fn fn) (s0:Int) (fv:Value) (Bo Bi l D:Nat) (hBl:Bo≠l) (hDl:D≠l) (hDB:D≠Bo) (hBiBo:Bi≠Bo) (hBil:Bi≠l) (h0B:w0.heap.size<=Bo) (h0l:w0.heap.size<=l)
  (ss:List Nat) (x:Nat) (c:Value) (W:World) (h:LsAt w0 fn s0 fv Bo l D ss W) (hi0:W.heap[Bi]? =some (.cells #[c] 51 (0,0))) (hlen:ss.length<24):
  YieldAt F m Tryz.prog l #[km x] W fun e W'=>e= .returned (.bool true)/\LsAt w0 fn s0 fv Bo l D (ss++[x]) W'/\W'.heap[Bi]? =some (.cells #[c] 51 (0,0)):=by
 obtain ⟨i0,hi,hz0,hz1,hz2⟩:=info_parts acr
 obtain ⟨v,hv,hrow⟩:=h.box
 refine ⟨fn,#[.int .u32 s0,undef,.slice none 0 0,.pointer (some ⟨Bo,0,none⟩),undef,.int .u32 s0,fv,.int .i64 (x:Int),undef,undef,undef,undef,undef],Hq,Hr,by simpa [mP,km] using run_yield (P:=Tryz.prog) (args:= #[km x]) h.L rfl,roundIn_of_wpIn hfn ?_⟩
 have hl:l<W.heap.size:=(jt.1 h.L).1
 have hbr:=run_beginRound (P:=Tryz.prog) h.L rfl
 obtain ⟨W2,hW2⟩: ∃W2,W.putObj l (.loop {mP fn s0 fv Bo D .ready none with state:= .busy})=W2:=⟨_,rfl⟩
 rw [hW2] at hbr
 have hg2:W.grownBy W2 (some l):=by rw [<-hW2];exact u5 _ _ _
 have hv2:W2.heap[Bo]? =some (.cells #[v] 98 (0,0)):=by rw [<-hW2];exact (World.putObj_heap_other hBl).trans hv
 have hi2:W2.heap[Bi]? =some (.cells #[c] 51 (0,0)):=by rw [<-hW2];exact (World.putObj_heap_other hBil).trans hi0
 have hK2:W2.heap[D]? =some (.deferred (some [])):=by rw [<-hW2];exact (World.putObj_heap_other hDl).trans h.K
 have hL2:W2.heap[l]? =some (.loop {mP fn s0 fv Bo D .ready none with state:= .busy}):=by rw [<-hW2];exact World.putObj_heap_same hl
 have hrow2:W2.ownsRow w0.heap.size 3 1 v ss.length (ss.map km):=hrow.kept hg2 (qw hrow h.L (fun cur e=>by cases e))
 have hb2:Below w0.heap.size w0 W2:=h.below.grown hg2 h.below.size (fun k e=>by cases e;exact h0l)
 obtain ⟨hc2,hf2⟩:=rz hv2
 have hBlt:Bo<W2.heap.size:=(jt.1 hv2).1
 have hBilt:Bi<W2.heap.size:=(jt.1 hi2).1
 have hl2:l<W2.heap.size:=(jt.1 hL2).1
 have hDlt:D<W2.heap.size:=(jt.1 hK2).1
 have ne_of: ∀ {j:Nat} {o:Obj},W2.heap[j]? =some o->(∀cur,o≠ .cells cur 3 (0,0))->some j≠v.ownBlock:=fun hj hno=>by
  rcases qw hrow2 hj hno with e|e
  ·rw [e];simp
  ·exact fun e'=>e e'.symm
 clear hW2
 have hml:24<=maxLen:=by unfold maxLen;omega
 unfold Hq
 gi_wp2_with (rw [Oper.semAt_eq _ _ _ (fun c h=>by cases h)];go_simp;try go_bits)
 unfold Hr
 gi_wp2_with (first
  |(gi_at_builtin;refine wpListIn_append_own _ rfl _ _ 98 rfl w0.heap.size 3 i0 (.int .i64 0) 1 8 Tryz.underlying98 hi hz0 hz1 hz2 rfl (by decide) _ _ _ rfl (hrow2.alloc _) ⟨W2.heap.size,0,none⟩ 1 1 [km x] rfl rfl (cell_one_new _ _ _) (by simp [Value.oneCell',km]) (by omega) (by omega) (by have:=hb2.size;simp;omega) ?_;intro v' w3 hown' hg3 hnil3
    have hv3:w3.heap[Bo]? =some (.cells #[v] 98 (0,0)):=(hg3.block Bo (by simp;omega) (ne_of hv2 (fun cur e=>by cases e))).trans ((Below.heap_alloc _ _ Bo hBlt).trans hv2)
    obtain ⟨hc3,hf3⟩:=rz hv3
    obtain ⟨g',cap',cur',rfl,hbase',hgb',hr1,hr2,hr3,hr4⟩: ∃g' cap' cur',v'= .slice (some ⟨g',0,none⟩) (ss.length+1) cap'/\w0.heap.size<=g'/\w3.heap[g']? =some (.cells cur' 3 (0,0))/\ss.length+1<=cap'/\cap'<=maxLen/\cur'.size=cap'*1/\cur'.toList.take ((ss.length+1)*1)=ss.map km++[km x]:=by
     rcases hown'.2 with ⟨_,h0⟩|h'
     ·exact absurd h0 (by omega)
     ·exact h'
    go_frame)
  |(rw [Oper.semAt_eq _ _ _ (fun c h=>by cases h)];go_simp;try go_bits))
 have hg3':(W2.alloc (.cells #[km x] 3)).grownBy w3 v.ownBlock:=hg3
 have hL3:w3.heap[l]? =some (.loop {mP fn s0 fv Bo D .ready none with state:= .busy}):=(hg3'.block l (by simp;omega) (ne_of hL2 (fun cur e=>by cases e))).trans ((Below.heap_alloc _ _ l hl2).trans hL2)
 have hK3:w3.heap[D]? =some (.deferred (some [])):=(hg3'.block D (by simp;omega) (ne_of hK2 (fun cur e=>by cases e))).trans ((Below.heap_alloc _ _ D hDlt).trans hK2)
 have hi3:w3.heap[Bi]? =some (.cells #[c] 51 (0,0)):=(hg3'.block Bi (by simp;omega) (ne_of hi2 (fun cur e=>by cases e))).trans ((Below.heap_alloc _ _ Bi hBilt).trans hi2)
 obtain ⟨w4,hw4⟩: ∃w4,w3.setCell ⟨Bo,0,none⟩ (.slice (some ⟨g',0,none⟩) (ss.length+1) cap')=w4:=⟨_,rfl⟩
 rw [hw4]
 have hg4:w3.grownBy w4 (some Bo):=by rw [<-hw4];exact I4 _ _ _
 have hv4:w4.heap[Bo]? =some (.cells #[.slice (some ⟨g',0,none⟩) (ss.length+1) cap'] 98 (0,0)):=by rw [<-hw4];exact FC _ hv3
 have hL4:w4.heap[l]? =some (.loop {mP fn s0 fv Bo D .ready none with state:= .busy}):=(hg4.block l (jt.1 hL3).1 (fun e=>hBl (by cases e;rfl))).trans hL3
 have hK4:w4.heap[D]? =some (.deferred (some [])):=(hg4.block D (jt.1 hK3).1 (fun e=>hDB (by cases e;rfl))).trans hK3
 have hi4:w4.heap[Bi]? =some (.cells #[c] 51 (0,0)):=(hg4.block Bi (jt.1 hi3).1 (fun e=>hBiBo (by cases e;rfl))).trans hi3
 have hrow4:=hown'.kept hg4 (qw hown' hv3 (fun cur e=>by cases e))
 have hl4:l<w4.heap.size:=(jt.1 hL4).1
 have hb3:Below w0.heap.size w0 w3:=(hb2.alloc hb2.size _).grown hg3' (by have:=hb2.size;simp;omega) (fun k e=>(hrow2.lt k e).1)
 have hb4:Below w0.heap.size w0 w4:=hb3.grown hg4 hb3.size (fun k e=>by cases e;exact h0B)
 clear hw4
 refine ⟨_,_,run_endRound none hL4,rfl,⟨⟨_,(World.putObj_heap_other hBl).trans hv4, ?_⟩,World.putObj_heap_same hl4,(World.putObj_heap_other hDl).trans hK4,hb4.grown (u5 _ _ _) hb4.size (fun k e=>by cases e;exact h0l)⟩,(World.putObj_heap_other hBil).trans hi4⟩
 have:=hrow4.kept (u5 w4 l (.loop {{mP fn s0 fv Bo D .ready none with state:= .busy} with state:=if (none:Option Code).isNone then .ready else .done,pending:=none})) (qw hrow4 hL4 (fun cur e=>by cases e))
 simpa using this
def Hg (Bi:Nat) (w:World):Nat:=match w.cell? ⟨Bi,0,none⟩ with
 |some v=>(intOf v).toNat
 |none=>0
theorem M2 {Bi:Nat} {w:World} {n:Nat} {t:TypeId} (h:w.heap[Bi]? =some (.cells #[.int .u32 (n:Int)] t (0,0))):Hg Bi w=n:=by
 unfold Hg;rw [(rz h).1];simp [intOf]
theorem XR {w0 W:World} (hT:TabAt 0 Lib.deBruijn32tab w0) (hb:Below w0.heap.size w0 W):TabAt 0 Lib.deBruijn32tab W:=fun j hj=>by
 have h:=hT j hj
 have h0:0<w0.heap.size:=World.block_lt_of_cell? w0 ⟨0,j,none⟩ h
 exact (hb.cell (p:=⟨0,j,none⟩) h0).trans h
theorem X4 (s:Int):bits .and .u32 s 16777215=(((BitVec.ofInt 32 s).toNat&&&16777215:Nat):Int):=by
 have hx:(BitVec.ofInt 32 s).toNat&&&16777215<2^32:=Nat.and_lt_two_pow _ (by omega)
 show IntKind.u32.wrap ((BitVec.ofInt 32 s&&&BitVec.ofInt 32 16777215).toNat:Int)=_
 rw [BitVec.toNat_and,wrap_u32',show (BitVec.ofInt 32 16777215).toNat=16777215 from by decide]
 omega
def mN (s:Int):Nat:=(BitVec.ofInt 32 s).toNat&&&16777215
theorem X5 (s:Nat) (h0:s≠0) (h:s<4294967296):bits .and .u32 (s:Int) ((s:Int)-1)=((s&&&(s-1):Nat):Int):=by
 have:(s:Int)-1=((s-1:Nat):Int):=by omega
 rw [this];exact bits_and_u32_nat s (s-1) h (by omega)
set_option maxRecDepth 100000 in
set_option maxHeartbeats 2000000 in
theorem afr (F:Fence) (n:Nat) (h339:F.fn 339) (h340:F.fn 340) (hro:F.round=none) (hn:1<=n) (w0:World) (fn:FuncId) (hfn:F.fn fn) (s0:Int) (fv:Value) (Bo Bi l D:Nat) (hBl:Bo≠l) (hDl:D≠l) (hDB:D≠Bo) (hBiBo:Bi≠Bo) (hBil:Bi≠l) (hBiD:Bi≠D)
  (h0B:w0.heap.size<=Bo) (h0l:w0.heap.size<=l) (h0i:w0.heap.size<=Bi) (hT:TabAt 0 Lib.deBruijn32tab w0) (s:Int) (W:World) (h:LsAt w0 fn s0 fv Bo l D [] W) (hi0:W.heap[Bi]? =some (.cells #[.int .u32 s] 51 (0,0)))
  (htz: ∀ (x:Nat),x<4294967296->x≠0-> ∀W',TabAt 0 Lib.deBruijn32tab W'->CallsIn F (n-1) Tryz.prog 340 #[.int .u32 x] W' fun e w'=>e= .returned (.int .i64 (Lib.ctz 32 x))/\w'=W'):
  CallsIn F n Tryz.prog 339 #[.func (.yield l) #[] #[],.pointer (some ⟨Bi,0,none⟩)] W fun e W'=>(∃v,e= .returned v)/\LsAt w0 fn s0 fv Bo l D (jO (mN s)) W':=by
 obtain ⟨hc0,hf0⟩:=rz hi0
 have ha:bits .and .u32 s 16777215=((mN s:Nat):Int):=X4 s
 have hsl:mN s<16777216:=Nat.lt_of_le_of_lt Nat.and_le_right (by decide)
 generalize mN s=q at ha hsl ⊢
 refine callsIn_of_wp Tryz.func339 rfl h339 ?_ hro
 simp only [Tryz.ntmps339,List.size_toArray,dv,List.length_nil,Nat.reduceAdd,Nat.reduceSub,Array.replicate_succ,Array.replicate_zero,List.push_toArray,List.append_toArray,fq,List.cons_append]
 gi_wp2
 have hi1:=FC (.int .u32 (q:Int)) hi0
 have hA1:LsAt w0 fn s0 fv Bo l D [] (W.setCell ⟨Bi,0,none⟩ (.int .u32 (q:Int))):=by
  obtain ⟨v,hv,hrow⟩:=h.box
  exact ⟨⟨v,(Below.heap_setCell _ _ _ Bo (fun e=>hBiBo e.symm)).trans hv,hrow.kept (I4 _ _ _) (qw hrow hi0 (fun cur e=>by cases e))⟩,(Below.heap_setCell _ _ _ l (fun e=>hBil e.symm)).trans h.L,(Below.heap_setCell _ _ _ D (fun e=>hBiD e.symm)).trans h.K,h.below.setCell h0i _⟩
 gi_loopw [] (fun wr=> ∃ (pre:List Nat) (c:Nat),c<16777216/\pre++jO c=jO q/\LsAt w0 fn s0 fv Bo l D pre wr/\wr.heap[Bi]? =some (.cells #[.int .u32 (c:Int)] 51 (0,0)))
  (fun wr=>Hg Bi wr)
 case atStart=>exact ⟨[],q,hsl,rfl,hA1,hi1⟩
 case round=>
  obtain ⟨pre,c,hc,hp,hA,hb⟩:=hrel
  clear hc0 hf0 ha hi1 hA1
  obtain ⟨hc1,hf1⟩:=rz hb
  by_cases hz:c=0
  ·subst hz
   rw [akl,eZ] at hp
   gi_wp2
   go_end0
   exact ⟨⟨_,rfl⟩,hp▸hA⟩
  ·have hne:((c:Int)==0)=false:=by simp;omega
   have hne': ¬ ((c:Int)=0):=by omega
   have hstep:=akn c hz hc
   have hpl:pre.length<24:=by
    have h1:=akm q
    have h2:=congrArg List.length hp
    rw [hstep.1,List.length_append,dv] at h2
    omega
   obtain ⟨fn',tmps,assign,body,hy,hR⟩:=afs F (n-1) w0 fn hfn s0 fv Bo Bi l D hBl hDl hDB hBiBo hBil h0B h0l pre (Lib.ctz 32 c) (.int .u32 (c:Int)) wr hA hb hpl
   have hT1:=XR hT hA.below
   have hap:=X5 c hz (by omega)
   unfold km at hy
   have hyH:Hid (Lib.ctz 32 c=Lib.ctz 32 c):=rfl
   gi_wp2_with (gi_at_call 340;refine (htz c (by omega) hz _ hT1).mono ?_;rintro e w' ⟨rfl,rfl⟩)
   refine hR.mono ?_
   rintro e W3 ⟨rfl,hA3,hb3⟩
   obtain ⟨hc3,hf3⟩:=rz hb3
   clear hc1 hf1 hA hy hR hT1
   gi_wp2
   have hb4:=FC (.int .u32 ((c&&&(c-1):Nat):Int)) hb3
   have hlt:=hstep.2
   go_roundw
   case rel=>
    refine ⟨pre++[Lib.ctz 32 c],c&&&(c-1),by omega, ?_, ?_,hb4⟩
    ·rw [<-hp,hstep.1,List.append_assoc];rfl
    ·obtain ⟨v,hv,hrow⟩:=hA3.box
     exact ⟨⟨v,(Below.heap_setCell _ _ _ Bo (fun e=>hBiBo e.symm)).trans hv,hrow.kept (I4 _ _ _) (qw hrow hb3 (fun cur e=>by cases e))⟩,(Below.heap_setCell _ _ _ l (fun e=>hBil e.symm)).trans hA3.L,(Below.heap_setCell _ _ _ D (fun e=>hBiD e.symm)).trans hA3.K,hA3.below.setCell h0i _⟩
   case measure=>rw [M2 hb4,M2 hb];exact hlt
set_option maxRecDepth 100000 in
set_option maxHeartbeats 2000000 in
theorem aff (F:Fence) (n:Nat) (h314:F.fn 314) (h333:F.fn 333) (h339:F.fn 339) (h340:F.fn 340) (hro:F.round=none) (hn:3<=n) (s:Int) (w:World) (hT:TabAt 0 Lib.deBruijn32tab w)
  (hin: ∀W,CallsIn F (n-1) Tryz.prog 333 #[.int .u32 s] W fun e w'=>e= .returned (.func (.func 339) #[] #[.pointer (some ⟨W.heap.size,0,none⟩)])/\w'=W.alloc (.cells #[.int .u32 s] 51))
  (htz: ∀ (x:Nat),x<4294967296->x≠0-> ∀W',TabAt 0 Lib.deBruijn32tab W'->CallsIn F (n-1-1) Tryz.prog 340 #[.int .u32 x] W' fun e w'=>e= .returned (.int .i64 (Lib.ctz 32 x))/\w'=W'):
  CallsIn F n Tryz.prog 314 #[.int .u32 s] w fun e w'=> ∃v:Value,e= .returned v/\w'.ownsRow w.heap.size 3 1 v (jO (mN s)).length ((jO (mN s)).map km)/\Below w.heap.size w w':=by
 have h1:1<=n:=by omega
 have eg: ∀args w,(callFunc 339 args).run Tryz.prog w= .ok (.enter 339 args) w:=enters_of Tryz.func339 (by kernel_rfl) rfl
 refine callsIn_of_wp_marks Tryz.func314 rfl h314 ?_ hro
 simp only [Tryz.ntmps314,List.size_toArray,dv,List.length_nil,Nat.reduceAdd,Nat.reduceSub,Array.replicate_succ,Array.replicate_zero,List.push_toArray,List.append_toArray,fq,List.cons_append]
 gi_wp2_with (gi_at_call 333;refine (hin _).mono ?_;rintro e w' ⟨rfl,rfl⟩)
 refine wpIn_rangeFunc ?_
 intro fn hfn
 rw [hro]
 obtain ⟨fv,hfv⟩: ∃fv:Value,fv= .func (.func 339) #[] #[.pointer (some ⟨w.heap.size+1,0,none⟩)]:=⟨_,rfl⟩
 obtain ⟨W0,hW0⟩: ∃W0,(w.alloc (.cells #[.slice none 0 0] 98)).alloc (.cells #[.int .u32 s] 51)=W0:=⟨_,rfl⟩
 have hs0:W0.heap.size=w.heap.size+2:=by rw [<-hW0];simp
 have hv0:W0.heap[w.heap.size]? =some (.cells #[.slice none 0 0] 98 (0,0)):=by rw [<-hW0];exact (Below.heap_alloc _ _ _ (by simp)).trans (World.alloc_heap_new w _)
 have hi0:W0.heap[w.heap.size+1]? =some (.cells #[.int .u32 s] 51 (0,0)):=by
  rw [<-hW0];have:=World.alloc_heap_new (w.alloc (.cells #[.slice none 0 0] 98)) (.cells #[.int .u32 s] 51);rwa [World.size_alloc] at this
 have hb0:Below w.heap.size w W0:=by rw [<-hW0];exact ((Below.refl _ w).alloc (eh _) _).alloc (by simp) _
 rw [hW0]
 obtain ⟨W1,hW1⟩: ∃W1,(W0.alloc (.deferred (some []))).alloc (.loop (mP fn s fv w.heap.size W0.heap.size .ready none))=W1:=⟨_,rfl⟩
 have hold: ∀k,k<W0.heap.size->W1.heap[k]? =W0.heap[k]? :=fun k hk=>by
  rw [<-hW1];exact (Below.heap_alloc _ _ k (by simp;omega)).trans (Below.heap_alloc _ _ k hk)
 have hb1:Below w.heap.size w W1:=by rw [<-hW1];exact (hb0.alloc hb0.size _).alloc (by have:=hb0.size;simp;omega) _
 have hM:LsAt w fn s fv w.heap.size (W0.heap.size+1) W0.heap.size [] W1:=
  ⟨⟨_,(hold w.heap.size (by omega)).trans hv0,⟨rfl,.inl ⟨rfl,rfl⟩⟩⟩,
   by rw [<-hW1];have:=World.alloc_heap_new (W0.alloc (.deferred (some []))) (.loop (mP fn s fv w.heap.size W0.heap.size .ready none));rwa [World.size_alloc] at this,
   by rw [<-hW1];exact (Below.heap_alloc _ _ _ (by simp)).trans (World.alloc_heap_new W0 _),hb1⟩
 refine ⟨W0.heap.size+1,[{target:= .collected W0.heap.size,args:= #[]}],W1,{target:= .fn (.func 339) #[.pointer (some ⟨w.heap.size+1,0,none⟩)],args:= #[.func (.yield (W0.heap.size+1)) #[] #[]]},W1,339,
  #[.func (.yield (W0.heap.size + 1)) #[] #[]] ++ #[.pointer (some ⟨w.heap.size + 1, 0, none⟩)], W1, ?_, ?_, ?_, ?_, fun _ => h1, ?_⟩
 ·rw [<-hW1,hfv];exact run_enterLoop_outer _ _ _ _ _
 ·simp [resolve,go_sem]
 ·intro f' hf';simp [Target.leads] at hf';subst hf';exact h339
 ·simp [invoke,go_sem,eg]
 ·refine (afr F (n-1) h339 h340 hro (by omega) w fn hfn s fv w.heap.size (w.heap.size+1) (W0.heap.size+1) W0.heap.size (by omega) (by omega) (by omega) (by omega) (by omega) (by omega) (eh _) (by omega) (by omega) hT s W1 hM ((hold _ (by omega)).trans hi0) htz).mono ?_
  rintro e W2 ⟨⟨v0,rfl⟩,h2⟩
  obtain ⟨v,hv,hrow⟩:=h2.box
  have hend:=run_endLoop (P:=Tryz.prog) h2.L (by simp [mP])
  obtain ⟨W3,hW3⟩: ∃W3,W2.putObj (W0.heap.size+1) (.loop {mP fn s fv w.heap.size W0.heap.size .ready none with state:= .exhausted})=W3:=⟨_,rfl⟩
  rw [hW3] at hend
  have hg3:W2.grownBy W3 (some (W0.heap.size+1)):=by rw [<-hW3];exact u5 _ _ _
  have hv3:W3.heap[w.heap.size]? =some (.cells #[v] 98 (0,0)):=by rw [<-hW3];exact (World.putObj_heap_other (by omega)).trans hv
  have hK3:W3.heap[W0.heap.size]? =some (.deferred (some [])):=by rw [<-hW3];exact (World.putObj_heap_other (by omega)).trans h2.K
  have hrow3:=hrow.kept hg3 (qw hrow h2.L (fun cur e=>by cases e))
  have hb3:Below w.heap.size w W3:=h2.below.grown hg3 h2.below.size (fun k e=>by cases e;omega)
  obtain ⟨hc3,hf3⟩:=rz hv3
  clear hW3
  refine ⟨none,W3,hend, ?_⟩
  clear hfv
  gi_wp2
  rw [show (w.heap.size+1+1)=W0.heap.size by omega]
  refine ⟨by simp,.inl ⟨_,_,rfl,run_takeDeferred hK3, ?_⟩⟩
  exact ⟨_,results_tmp rfl _ _ _,v,rfl,hrow3.kept (u5 _ _ _) (qw hrow3 hK3 (fun cur e=>by cases e)),hb3.grown (u5 _ _ _) hb3.size (fun k e=>by cases e;omega)⟩
end Go.Proofs.YtgajalidbabccaaGreatDoor
namespace Go.Proofs.YtgajalidbabccaaGreatDoor
open Go PI Go.Shelf Go.RowKit
set_option maxRecDepth 100000
def aj (o:Obj):Prop:= ∃ (cur:Array Value) (e:TypeId) (fr:Nat×Nat),o= .cells cur e fr/\ ∀j,j<Lib.deBruijn32tab.length->cur[j]? =some (.int .u8 (Lib.deBruijn32tab.getD j 0))
theorem aj4 {o:Obj} (ho:aj o) {w:World} (h:w.heap[0]? =some o):TabAt 0 Lib.deBruijn32tab w:=fun j hj=>by
 obtain ⟨cur,e,fr,rfl,hc⟩:=ho
 have:=hc j hj
 simp [World.cell?,h,this]
theorem afe (s:Int) (w:World) (hT:TabAt 0 Lib.deBruijn32tab w):Calls Tryz.prog 314 #[.int .u32 s] w fun e w'=> ∃v:Value,e= .returned v/\w'.ownsRow w.heap.size 3 1 v (jO (mN s)).length ((jO (mN s)).map km)/\Below w.heap.size w w':=
 callsIn_wide.1 (aff Fence.wide 5 trivial trivial trivial trivial rfl (by omega) s w hT (fun W=>callsIn_wide.2 (acp s W)) fun x hx h0 W' hT'=>callsIn_wide.2 (Tryz.tz32 x hx h0 W' hT'))
theorem afv (s:Int):uT s=(jO (mN s)).map fun n:Nat=>(n:Int):=by
 unfold uT jO mN
 have:(fY 24).filter ((BitVec.ofInt 32 s).toNat&&&16777215).testBit=(fY 24).filter fun i=>(BitVec.ofInt 32 s).getLsbD i:=List.filter_congr fun i hi=>by
  have hi:i<24:=List.mem_range.1 hi
  have h24:(16777215:Nat)=2^24-1:=by decide
  rw [Nat.testBit_and,h24,Nat.testBit_two_pow_sub_one,decide_eq_true hi,Bool.and_true];rfl
 rw [this];rfl
theorem Ya {X:Link VV Tryz.prog} {w w':World} {vs:Array Value} {N0:aX} {ν:Nat->Nat} {δ:Nat->Option Nat} {ο:Nat->Array Value} {args:List PU} (hg:Given X w vs N0 ν δ ο args []) (hb:Below w.heap.size w w'):
  Back X w w' N0 ν δ ο 0 args.length ν (fun _=>none) [] where
 ext:=⟨hb.os,hb.tape,hb.output,hb.size,fun b hlt _=>hb.block b hlt⟩
 le:=eh _
 old:=fun i h=>absurd h (Nat.not_lt_zero i)
 new:=fun i _ h=>absurd h (Nat.not_lt_zero i)
 dnew:=fun j b h=>by cases h
 bnd:={
  inj:=fun i j h=>absurd h (Nat.not_lt_zero i)
  lt:=fun i h=>absurd h (Nat.not_lt_zero i)
  dlt:=fun j b h=>by cases h
  dinj:=fun i j b h=>by cases h
  dν:=fun j b h=>by cases h
  n0:=fun b o h=>⟨Nat.lt_of_lt_of_le (hg.bnd.n0 b o h).1 hb.size,fun i h=>absurd h (Nat.not_lt_zero i),fun j h=>by cases h⟩}
 boxes:=fun k b h=>by simp at h
theorem ake {S:Type} (o:Obj) (ho:aj o) (vs:List PU) (bs:List (Box UU)) (κ:Out UU->Option S) (x:S) (h:IG vs bs κ=some x): ∃out,dZ (LL o) abG vs bs out/\κ out=some x:=by
 unfold IG at h
 split at h
 case h_2=>cases h
 rename_i κ y
 refine ⟨_, ?_,h⟩
 refine ⟨⟨Tryz.f314,Tryz.func314,by kernel_rfl,rfl⟩,fun w vs N0 ν δ ο hg=> ?_⟩
 have hs:vs.size=1:=hg.size
 have h0:=hg.args 0 _ rfl
 obtain ⟨v0,hv0⟩: ∃v0,vs= #[v0]:=by
  obtain ⟨l⟩:=vs
  match l,hs with
  |[v],_=>exact ⟨v,rfl⟩
 subst hv0
 have h0:Rep (LL o) w _ _ v0 (.int .u32 y):=h0
 cases h0
 have hT:=aj4 ho (hg.glob 0 o (by simp [LL])).1
 refine (afe y w hT).mono ?_
 rintro e w' ⟨v,rfl,hrow,hb⟩
 refine ⟨ν,fun _=>none,Ya hg hb, ?_⟩
 show Rep (LL o) w' _ _ v (.sl ET.I (uT y) .none)
 rw [afv]
 generalize jO (mN y)=ts at hrow
 obtain ⟨hl,hr⟩:=hrow
 rcases hr with ⟨rfl,hn⟩|⟨g,cap,cur,rfl,hg0,hgb,hc,hc',hsz,htk⟩
 ·have:ts=[]:=List.length_eq_zero_iff.1 hn
  subst this
  exact .sl none 0 0 _ _ _ (fun _ _=>undef) rfl (eh _) trivial (fun j x hx=>by cases hx) (fun j x hx=>by cases hx)
 ·have hcell: ∀j x,(ts.map fun n:Nat=>(n:Int))[j]? =some x->cur.getD j undef= .int .i64 x/\w'.cell? ⟨g,j,none⟩=some (.int .i64 x):=by
   intro j x hx
   rw [List.getElem?_map] at hx
   cases ht:ts[j]? with
   |none=>rw [ht] at hx;cases hx
   |some n=>
    rw [ht] at hx
    injection hx with hx
    have hj:j<ts.length:=(it.1 ht).1
    have h1:(cur.toList.take (ts.length*1))[j]? =some (km n):=by rw [htk,List.getElem?_map,ht];rfl
    rw [List.getElem?_take_of_lt (by omega)] at h1
    have h2:cur[j]? =some (.int .i64 x):=by rw [<-Array.getElem?_toList,h1,<-hx];rfl
    refine ⟨?_,by simp [World.cell?,hgb,h2]⟩
    rw [jT,h2];rfl
  refine Rep.sl (X:=LL o) (some ⟨g,0,none⟩) ts.length cap ET.I (show List Int from ts.map fun n:Nat=>(n:Int)) .none (fun j k=>cur.getD (j+k) undef) (List.length_map _) hc trivial (fun j x hx k p hp=> ?_) (fun j x hx k p hp=> ?_)
  ·match k,hp with
   |0,hp=>
    obtain ⟨h1,h2⟩:=hcell j x hx
    refine ⟨_,rfl, ?_, ?_⟩
    ·have:(⟨g,0,none⟩:Addr).add (j*(LL o).esize ET.I+0)=⟨g,j,none⟩:=by
      rw [Addr.add_lit'];show (⟨g,0+(j*1+0),none⟩:Addr)=_;congr 1;omega
     rw [this,h2];rw [Nat.add_zero,h1]
    ·rintro (hN|⟨i,hi,_⟩|⟨i,hi⟩)
     ·have:=(hg.bnd.n0 _ _ hN).1
      simp at this;omega
     ·exact absurd hi (Nat.not_lt_zero i)
     ·cases hi
   |k+1,hp=>simp [VV,hX] at hp
  ·match k,hp with
   |0,hp=>
    obtain ⟨h1,h2⟩:=hcell j x hx
    rw [Nat.add_zero,h1]
    have:p= .int .i64 x:=by simpa [VV,hX] using hp.symm
    subst this
    exact .int _ _
   |k+1,hp=>simp [VV,hX] at hp
open Go.Sort
def rA (a b:Int):Int:=if a<b then-1 else if b<a then 1 else 0
def nr (x y:Cl):Int:=if x.pos=y.pos then rA x.neg y.neg else rA x.pos y.pos
def jE (x:Cl):List Value:=[.int .u32 x.pos,.int .u32 x.neg]
theorem GZ (a:Int) (W:World):Calls Tryz.prog 313 #[.int .u32 a] W fun e w'=>e= .returned (.bool false)/\w'=W:=by
 go_enter Tryz.func313,Tryz.ntmps313
 go_wp2
 go_ret
 exact ⟨by simp,rfl⟩
set_option maxHeartbeats 1000000 in
theorem K6 (a b:Int) (W:World):Calls Tryz.prog 281 #[.int .u32 a,.int .u32 b] W fun e w'=>e= .returned (.int .i64 (rA a b))/\w'=W:=by
 unfold rA
 by_cases h1:a<b
 ·rw [if_pos h1]
  go_enter Tryz.func281,Tryz.ntmps281
  go_wp2_with (go_at_call 313;refine (GZ _ _).mono ?_;rintro e w' ⟨rfl,rfl⟩)
  go_ret
  exact ⟨rfl,rfl⟩
 ·rw [if_neg h1]
  by_cases h2:b<a
  ·rw [if_pos h2]
   go_enter Tryz.func281,Tryz.ntmps281
   go_wp2_with (go_at_call 313;refine (GZ _ _).mono ?_;rintro e w' ⟨rfl,rfl⟩)
   go_ret
   exact ⟨rfl,rfl⟩
  ·rw [if_neg h2]
   go_enter Tryz.func281,Tryz.ntmps281
   go_wp2_with (go_at_call 313;refine (GZ _ _).mono ?_;rintro e w' ⟨rfl,rfl⟩)
   go_ret
   exact ⟨rfl,rfl⟩
set_option maxHeartbeats 1000000 in
theorem Y3 (x y:Cl) (W:World):Calls Tryz.prog 231 #[.agg (jE x).toArray,.agg (jE y).toArray] W fun e w'=>e= .returned (.int .i64 (nr x y))/\ ∃q os',w'=grow (W.drewN q) os':=by
 obtain ⟨a,b⟩:=x
 obtain ⟨a',b'⟩:=y
 have h1:=K6 a a'
 have h2:=K6 b b'
 unfold nr
 simp only [jE]
 generalize rA a a'=r1 at h1 ⊢
 generalize rA b b'=r2 at h2 ⊢
 by_cases h:a=a'
 ·rw [if_pos h]
  go_enter Tryz.func231,Tryz.ntmps231
  go_wp2_with (go_at_call 281;refine (h2 _).mono ?_;rintro e w' ⟨rfl,rfl⟩)
  go_ret
  exact ⟨rfl,0,_,by rw [alloc_eq_grow,alloc_eq_grow,grow_grow];rfl⟩
 ·rw [if_neg h]
  go_enter Tryz.func231,Tryz.ntmps231
  go_wp2_with (go_at_call 281;refine (h1 _).mono ?_;rintro e w' ⟨rfl,rfl⟩)
  go_ret
  exact ⟨rfl,0,_,by rw [alloc_eq_grow,alloc_eq_grow,grow_grow];rfl⟩
theorem xZ (x y:Cl):ltOf nr x y=(decide (x.pos<y.pos)||(decide (x.pos=y.pos)&&decide (x.neg<y.neg))):=by
 have h:nr x y<0↔(x.pos<y.pos\/x.pos=y.pos/\x.neg<y.neg):=by
  unfold nr rA
  split<;>split<;>first|omega|(split<;>omega)
 rw [Bool.eq_iff_iff]
 simp only [ltOf,decide_eq_true_eq,Bool.or_eq_true,ak]
 exact h
theorem aj3:SWO (ltOf nr) where
 irrefl x:=by rw [xZ];simp
 trans x y z h1 h2:=by rw [xZ] at*;simp at*;omega
 ntrans x y z h1 h2:=by rw [xZ] at*;simp at*;omega
theorem aki (x y:Cl) (h1:ltOf nr x y=false) (h2:ltOf nr y x=false):x=y:=by
 rw [xZ] at*;simp at*
 obtain ⟨a,b⟩:=x
 obtain ⟨a',b'⟩:=y
 simp at*
 omega
theorem ab7:(fun x y:Cl=> !ltOf nr y x)=pI:=by
 funext x y
 rw [xZ,Bool.eq_iff_iff]
 simp [pI]
 omega
instance:Inhabited Cl:=⟨⟨0,0⟩⟩
theorem ajF (b c:Nat) (d:List Cl) (w:World) (hH:HoldsK jE 2 w b 0 d.toArray) (hb:b<w.heap.size) (hsz:d.length<4611686018427387904):
  Calls Tryz.prog 230 #[.slice (some ⟨b,0,none⟩) d.length c,.func (.func 231) #[] #[]] w fun e w'=>e= .returned (.tuple #[])/\ ∃n os,w'=sortWorldK jE 2 w b 0 n (sortCl d).toArray os:=by
 have eg: ∀args w,(callFunc 231 args).run Tryz.prog w= .ok (.enter 231 args) w:=enters_of Tryz.func231 (by kernel_rfl) rfl
 have h:=AnyQ.slices_SortFunc_total Tryz.sortCl 2 Tryz.isAgg53 Tryz.sizeOf53 jE (fun _=>rfl) (fun x v hv=>by simp [jE] at hv;rcases hv with rfl|rfl<;>rfl) nr aj3 231 #[] b 0 c d.toArray w eg (fun _ _ _ _ x y=>Y3 x y _) hH hb hsz aki
 rw [ab7] at h
 exact h
theorem ajG (p:Option Addr) (c:Nat) (w:World):Calls Tryz.prog 230 #[.slice p 0 c,.func (.func 231) #[] #[]] w fun e w'=>e= .returned (.tuple #[])/\w'=w:=
 AnyF.slices_SortFunc_none Tryz.sortCl p c _ w
theorem ajE {m:Nat} {d:Array Cl} {os:Array Obj} {w:World} {b k:Nat} (hk:k<w.heap.size) (hne:k≠b):(sortWorldK jE 2 w b 0 m d os).heap[k]? =w.heap[k]? :=by
 unfold sortWorldK putRowK putRow mapBlock
 rw [heap_grow_old _ _ (by simpa [ahead] using hk)]
 show (w.heap.modify b _)[k]? =_
 rw [Array.getElem?_modify,if_neg (Ne.symm hne)]
theorem ajD {m:Nat} {d:Array Cl} {os:Array Obj} {w:World} {b:Nat} {cur:Array Value} {e:TypeId} {fr:Nat×Nat} (h:w.heap[b]? =some (.cells cur e fr)):
  (sortWorldK jE 2 w b 0 m d os).heap[b]? =some (.cells (putCells id 0 (flatK jE 2 d) cur) e fr):=by
 have hb:b<w.heap.size:=(jt.1 h).1
 unfold sortWorldK putRowK putRow mapBlock
 rw [heap_grow_old _ _ (by simpa [ahead] using hb)]
 show (w.heap.modify b _)[b]? =_
 rw [Array.getElem?_modify,if_pos rfl,h];rfl
theorem Y1 (x:Cl) {k:Nat} {p:PU} (hp:(hX .C x)[k]? =some p):k<2/\ ∀ (X:Link VV Tryz.prog) (w:World) (N:aX) (g:Gh UU),Rep X w N g (jE x)[k]! p:=by
 match k,hp with
 |0,hp=>cases hp;exact ⟨by omega,fun X w N g=> .int _ _⟩
 |1,hp=>cases hp;exact ⟨by omega,fun X w N g=> .int _ _⟩
 |k+2,hp=>simp [hX] at hp
theorem acj {w:World} {b c:Nat} {l:List Cl} {cur:Array Value} {e:TypeId} (hb:w.heap[b]? =some (.cells cur e (0,0))) (hs:cur.size=c*2) (hl:l.length<=c) (h: ∀ (j:Nat) (x:Cl),l[j]? =some x-> ∀k,k<2->w.cell? ⟨b,j*2+k,none⟩=some (jE x)[k]!):HoldsK jE 2 w b 0 l.toArray:=by
 intro t ht
 rw [size_flatK] at ht
 have ht':t<l.length*2:=by simpa using ht
 have hj:t/2<l.length:=by omega
 have hx:l[t/2]? =some l.toArray[t/2]! :=by simp [hj]
 refine ⟨?_, ?_⟩
 ·rw [get_flatK _ _ _ _ ht]
  have:=h _ _ hx (t%2) (Nat.mod_lt _ (by omega))
  rw [jd]
  rw [show t/2*2+t%2=t by omega] at this
  exact this
 ·simp [World.frozen?,hb]
theorem acs {f:Nat} {ps:List PU} {l l':List Cl} (h:GX f ps l=some l'):f=230/\ps=[.func 231 [] []]/\l'=sortCl l:=by
 unfold GX at h
 split at h
 ·injection h with h
  exact ⟨rfl,rfl,h.symm⟩
 ·cases h
theorem CF (o:Obj):pC (LL o):=by
 intro f ps e l l' h
 have hi:Mw f ps e l=some l':=h
 clear h
 cases e with
 |T=>cases hi
 |B=>cases hi
 |I=>cases hi
 |F=>cases hi
 |C=>
 obtain ⟨rfl,rfl,rfl⟩:=acs hi
 refine ⟨⟨Tryz.f230,Tryz.func230,by kernel_rfl,rfl⟩,fun w vs N0 δ ο hg hδ=> ?_⟩
 have hs:vs.size=2:=hg.size
 obtain ⟨v0,v1,rfl⟩: ∃v0 v1,vs= #[v0,v1]:=by
  obtain ⟨l⟩:=vs
  match l,hs with
  |[v,v'],_=>exact ⟨v,v',rfl⟩
 have h0:ObOK (LL o) w (NB N0 0 (fun _=>0) δ) (gB UU 0 fun _=>0) ET.C l v0 .wr (δ 0):=hg.args 0 _ rfl
 have h1:Rep (LL o) w (NB N0 0 (fun _=>0) δ) (gB UU 0 fun _=>0) v1 (.func 231 [] []):=hg.args 1 _ rfl
 cases h1 with
 |func _ _ _ xs ys ha hb _ _=>
 have ha':xs= #[]:=by simpa using ha
 have hb':ys= #[]:=by simpa using hb
 subst ha';subst hb'
 obtain ⟨A,n,c,rfl,hl,hc,hcell,hm⟩:=h0.val
 have hl: @List.length Cl l=n:=hl
 cases hD:δ 0 with
 |none=>
  rw [hD] at hm hcell
  obtain ⟨rfl,rfl,rfl⟩:=hm.1 rfl
  have:l=([]:List Cl):=List.length_eq_zero_iff.1 hl
  subst this
  refine (ajG none 0 w).mono ?_
  rintro e w' ⟨rfl,rfl⟩
  refine ⟨rfl,.refl _ _, ?_⟩
  rw [hD] at h0
  have:sortCl []=[]:=by simp [sortCl]
  rw [this]
  exact h0
 |some b=>
  rw [hD] at hm hcell
  obtain ⟨hu,cur,rfl,hblk,hsz,hmax⟩:=hm
  have hbl:b<w.heap.size:=(jt.1 hblk).1
  have hcs:cur.size=c*2:=hsz
  have hH:HoldsK jE 2 w b 0 l.toArray:=acj hblk hcs (hl▸hc) fun j x hx k hk=>by
   have hp: ∃p,(hX ET.C x)[k]? =some p/\p= .int .u32 (if k=0 then x.pos else x.neg):=by
    match k,hk with
    |0,_=>exact ⟨_,rfl,rfl⟩
    |1,_=>exact ⟨_,rfl,rfl⟩
   obtain ⟨p,hp,hpe⟩:=hp
   obtain ⟨a,v,ha,hv,hr,_⟩:=hcell j x hx k p hp
   injection ha with ha
   subst ha
   subst hpe
   have hv':w.cell? ⟨b,j*2+k,none⟩=some v:=by
    have:(⟨b,0,none⟩:Addr).add (j*(LL o).esize ET.C+k)=⟨b,j*2+k,none⟩:=by
     rw [Addr.add_lit'];show (⟨b,0+(j*2+k),none⟩:Addr)=_;congr 1;omega
    rw [this] at hv;exact hv
   rw [hv']
   cases hr
   match k,hk with
   |0,_=>rfl
   |1,_=>rfl
  have hlt: @List.length Cl l<4611686018427387904:=by
   have:n<=1099511627776:=hmax.2
   omega
  have hcall:=ajF b c l w hH hbl hlt
  have he:(.slice (some ⟨b,0,none⟩) (@List.length Cl l) c:Value)= .slice (some ⟨b,0,none⟩) n c:=by rw [hl]
  rw [he] at hcall
  refine hcall.mono ?_
  rintro e w' ⟨rfl,m,os,rfl⟩
  have hlen:(sortCl l).length= @List.length Cl l:=List.length_mergeSort _
  have hH':=holdsK_sortWorldK_c jE 2 w b 0 l.toArray (sortCl l).toArray m os hH hbl hlen
  refine ⟨rfl,⟨rfl,rfl,rfl,size_sortWorldK_c jE 2 w b 0 m _ os,fun k hk hne=>ajE hk fun e=>hne ?_⟩, ?_⟩
  ·subst e
   exact List.mem_append_right _ (List.mem_filterMap.2 ⟨0,by simp,hD⟩)
  ·refine ⟨_,n,c,rfl,hlen.trans hl,hc,fun j x hx k p hp=> ?_, ?_⟩
   ·obtain ⟨hk,hrep⟩:=Y1 x hp
    have hj:j<(sortCl l).length:=(it.1 hx).1
    have:=(hH'.cell (i:=j) (c:=k) (by simpa using hj) hk).1
    have he:(sortCl l).toArray[j]! =x:=by
     have:=it.1 hx
     rw [getElem!_pos _ j (by simpa using hj)];exact this.2
    rw [he] at this
    refine ⟨_,_,rfl, ?_,hrep _ _ _ _,fun h=>by cases h⟩
    have e:(⟨b,0,none⟩:Addr).add (j*(LL o).esize ET.C+k)=⟨b,0+j*2+k,none⟩:=by
     rw [Addr.add_lit'];show (⟨b,0+(j*2+k),none⟩:Addr)=_;congr 1;omega
    show World.cell? _ (Addr.add _ _)=_
    rw [e];exact this
   ·exact ⟨hu,_,rfl,ajD hblk,by simp [putCells];exact hcs,hmax⟩
end Go.Proofs.YtgajalidbabccaaGreatDoor
namespace Go.Proofs.YtgajalidbabccaaGreatDoor
open Go PI Go.ChangeShapes Go.WideShapes Go.ChangeAt Go.RowKit
set_option maxRecDepth 100000
theorem own:ownKnob Tryz.prog.godebug=none:=by kernel_rfl
theorem Mh:Tryz.prog.globalNamed "math/bits.deBruijn32tab" =some 0:=by kernel_rfl
section
variable {H:Type} {enc:TypeId×Value->H}
structure Kept (W W':World):Prop where
 os:W'.os=W.os
 output:W'.output=W.output
 size:W.heap.size<=W'.heap.size
 block: ∀b,b<W.heap.size->W'.heap[b]? =W.heap[b]?
theorem Kept.sameAt {W W':World} (h:Kept W W') {p:MemPlace} (hp:p.block<W.heap.size):W.sameAt W' p:=by
 cases p with
 |cell b o=>simp only [World.sameAt,World.cell?];rw [h.block b hp]
 |map b=>exact h.block b hp
theorem Kept.kept {W W':World} (h:Kept W W') (may:MemPlace->Prop):W.keptBut W' may:=by
 refine ⟨h.os,h.output,fun i hi=> ?_⟩
 rw [h.block i hi]
 cases W.heap[i]? with
 |none=>rfl
 |some o=>cases o with
  |cells c t fr=>exact ⟨rfl,rfl,rfl,fun _ _=>rfl⟩
  |map es clock=>exact .inr ⟨rfl,rfl⟩
  |_=>rfl
theorem KC {W W':World} {sp:Nat->Bool} {held:Bool}: ∀ {ts:List TypeId} {vs:List Value} {ds:List (DataW H)} {ps:List MemPlace},
  DataW.TrodAll enc Tryz.prog W 0 sp held ts vs ds ps->(∀p∈ps,W.sameAt W' p)->DataW.TrodAll enc Tryz.prog W' 0 sp held ts vs ds ps
 |[],[],[],_,h,_=>h
 |_::_,_::_,_::_,_,⟨p,q,⟨n,h1⟩,h2,e⟩,hs=>
  ⟨p,q,⟨n,DataW.trod_carry n _ _ _ h1 fun x hx=>hs x (by rw [e];exact List.mem_append_left _ hx)⟩,KC h2 (fun x hx=>hs x (by rw [e];exact List.mem_append_right _ hx)),e⟩
theorem kids:Kids Tryz.prog (· <Tryz.prog.types.size):=kids_rows (by kernel_rfl) (by kernel_rfl)
theorem full: ∀t e,t<Tryz.prog.types.size->Tryz.prog.underlying t=some (.slice e)->0<Tryz.prog.cellsOf e:=slices_full_of Tryz.prog (by kernel_rfl)
theorem agF {f:Func} {s:ChangeSpec} (hv:s.vars=[]) {gm fresh handsOn again:Bool} {W W':World} {args:Array Value} {ds gs:List (DataW H)} {before:List MemPlace} (hf:f.resultTypes= #[4])
  (hT: ∀t∈f.params.toList,t<Tryz.prog.types.size) (hs:s.fn H ds={results:=[.lit (.bool true)],args:=ds})
  (hW:DataW.Whole enc Tryz.prog f.params.toList s.vars gm W args.toList ds gs before) (hk:Kept W W'):s.post enc Tryz.prog f gm fresh handsOn again W args (.bool true) W':=by
 have hold: ∀p∈before,(fun b=>decide (b<W.heap.size)) p.block=true:=fun p hp=>by simpa using hW.lt p hp
 have hlt: ∀p∈before,p.block<W.heap.size:=fun p hp=>by simpa using hW.lt p hp
 have hW0:=hW
 obtain ⟨p,q,hA,hV,rfl,hz,hn⟩:=hW
 rw [hv] at hV
 obtain ⟨rfl,rfl⟩:=trodVars_none hV
 rw [eZ] at hold hlt hz hn hW0
 have hs':s.fn H (ds++[])={results:=[.lit (.bool true)],args:=ds}:=by rw [eZ];exact hs
 have hr:(Value.bool true).resultList f.resultTypes.size=[.bool true]:=by rw [hf];rfl
 have hres: ∀ (b:Nat) (sp:Nat->Bool) (hd:Bool),DataW.TrodAll enc Tryz.prog W' b sp hd f.resultTypes.toList ((Value.bool true).resultList f.resultTypes.size) (s.fn H (ds++[])).results []:=fun b sp hd=>by
  rw [hr,hs',hf]
  exact trodAll_cons_mk (shut_bool Tryz.underlying4 _) trodAll_mk0
 have hargs: ∀sp:Nat->Bool,(∀p'∈p,sp p'.block=true)->DataW.TrodAll enc Tryz.prog W' 0 sp true f.params.toList args.toList (s.fn H (ds++[])).args p:=fun sp hsp=>by
  rw [hs']
  exact DataW.TrodAll.respare kids full hT (KC hA fun x hx=>hk.sameAt (hlt x hx)) hsp
 have hvars: ∀sp:Nat->Bool,DataW.TrodVars enc Tryz.prog W' sp s.vars (s.fn H (ds++[])).vars []:=fun sp=>by rw [hv,hs'];rfl
 refine ⟨ds,[],p,[],p,[],hW0,hres _ _ _,hargs _ hold,hvars _,World.keptBut_mono (fun p' hp=>hp.elim) (hk.kept fun _=>False),fun _=> ?_⟩
 refine ⟨fun j t r h1 h2=> ?_,_,_,([]++p)++[],⟨[]++p,[],trodAll_append (hargs _ (fun _ _=>rfl)) (hres _ _ _),hvars _,rfl, ?_, ?_⟩, ?_⟩
 ·rw [hf] at h1
  rw [hr] at h2
  match j,h1,h2 with
  |0,h1,h2=>cases h1;cases h2;exact okWide_bool_mk Tryz.underlying4 _
  |j+1,h1,h2=>simp at h2
 ·intro b off hp
  have hp':MemPlace.cell b off∈p:=by simpa using hp
  have:=hz b off hp'
  simp only [World.frozen?] at this ⊢
  rw [hk.block b (hlt _ hp')]
  exact this
 ·intro ha
  have:=hn ha
  simpa using this
 ·intro p' hp _
  simpa using hp
variable {w:World} {spare:Nat->Bool} {held:Bool} {o:Obj} {N:aX} {g:Gh UU}
theorem XT {v:Value} {n:Nat} (h:v.cells.toList.length=n+2): ∃vs:Array Value,v= .agg vs/\vs.toList=v.cells.toList:=by
 cases v with
 |agg vs=>exact ⟨vs,rfl,rfl⟩
 |_=>simp [Value.cells] at h
theorem X8 (hN: ∀b o,¬N b o) {v:Value} {d:DataW H} {ps:List MemPlace} (h:DataW.Trod enc Tryz.prog w 0 spare held 26 v d ps): ∃t:Tm,Rep (LL o) w N g v (.agg (hX ET.T t))/\QT t d:=by
 obtain ⟨n,hn⟩:=h
 obtain ⟨t,hr,hq⟩:=(agj (o:=o) (g:=g) hN n).1 _ _ _ hn
 obtain ⟨_,_,_,_,hl,_,_⟩:=DataW.trod_struct Tryz.underlying26 hn
 have hl6:v.cells.toList.length=6:=hl.trans (by kernel_rfl)
 obtain ⟨vs,rfl,hvs⟩:=XT (n:=4) hl6
 refine ⟨t,Rep.agg (X:=LL o) vs (hX ET.T t) (by rw [<-Array.length_toList,hvs,hl6];rfl) fun j p hp=> ?_,hq⟩
 obtain ⟨v',hv',hr'⟩:=hr j p hp
 have:vs.getD j undef=v':=by
  have h2:vs[j]? =some v':=by rw [<-Array.getElem?_toList,hvs];exact hv'
  rw [jT,h2];rfl
 rw [this];exact hr'
theorem aca {o:Obj} {W:World} (h0:W.heap[0]? =some o) {vs:Array Value} {ps:List PU} (hs:vs.size=ps.length) (hp:ps.all PV.notFresh=true)
  (h: ∀ (j:Nat) p,ps[j]? =some p->Rep (LL o) W (NB (fun _ _=>False) 0 (fun _=>0) fun _=>none) (gB UU 0 fun _=>0) (vs.getD j undef) p):Given (LL o) W vs (fun _ _=>False) (fun _=>0) (fun _=>none) (fun _=> #[]) ps [] where
 bnd:=⟨fun i j hi=>absurd hi (Nat.not_lt_zero i),fun i hi=>absurd hi (Nat.not_lt_zero i),fun j b h=>(by cases h),fun i j b h=>(by cases h),fun j b h=>(by cases h),fun b o h=>h.elim⟩
 size:=hs
 dom:=fun j b h=>by cases h
 glob:=fun b o' hb=>by
  simp [LL] at hb
  obtain ⟨rfl,rfl⟩:=hb
  exact ⟨h0,fun i hi=>absurd hi (Nat.not_lt_zero i),fun j h=>by cases h⟩
 args:=fun j p hj=>RepG.of (h j p hj)
 boxes:=fun k b h=>by simp at h
 oz:=fun _ _=>rfl
theorem HJ: ∀b o,¬NB (fun _ _=>False) 0 (fun _=>0) (fun _=>none) b o:=by
 rintro b o (h|⟨k,hk,_⟩|⟨j,h⟩)
 ·exact h
 ·exact absurd hk (Nat.not_lt_zero k)
 ·cases h
theorem YQ {o:Obj} {f:FuncId} {ps:List PU} (hok:dZ (LL o) f ps [] (.ret (.bool true) [])) {W:World} {vs:Array Value} (hg:Given (LL o) W vs (fun _ _=>False) (fun _=>0) (fun _=>none) (fun _=> #[]) ps []):
  Calls Tryz.prog f vs W fun e W'=>e= .returned (.bool true)/\Kept W W':=by
 refine (hok.2 W vs _ _ _ _ hg).mono ?_
 rintro e W' he
 cases e with
 |returned rv=>
  obtain ⟨ν',δ',hb,hr⟩:=he
  have hr:Rep (LL o) W' _ _ rv (.bool true):=hr
  cases hr
  refine ⟨rfl,hb.ext.os,hb.ext.output,hb.ext.size,fun b hb'=>hb.ext.block b hb' fun hm=> ?_⟩
  simp [sV] at hm
 |panicked ch=>exact he.elim
 |outgrown=>exact he.elim
theorem aj5 {H:Type}:(Rows.laid_math_bits_deBruijn32tab:DataW H)=Lib.tabData .u8 (Lib.deBruijn32tab.map fun n:Nat=>(n:Int)):=rfl
theorem aj6 {W:World} (h:laidMetH Tryz.prog [("math/bits.deBruijn32tab",Rows.laid_math_bits_deBruijn32tab)] W): ∃o,aj o/\W.heap[0]? =some o:=by
 have h':laidMet Tryz.prog [("math/bits.deBruijn32tab",Rows.laid_math_bits_deBruijn32tab)] W:=h
 rw [aj5] at h'
 have ht:Lib.TabIs Tryz.prog W "math/bits.deBruijn32tab" .u8 (Lib.deBruijn32tab.map fun n:Nat=>(n:Int)):=
  Lib.tabIs_of_head (rest:=[]) Mh (by kernel_rfl) Tryz.underlying234 Tryz.underlying5 (by kernel_rfl) (by kernel_rfl) h'
 have hc: ∀j,j<Lib.deBruijn32tab.length->W.cell? ⟨0,j,none⟩=some (.int .u8 (Lib.deBruijn32tab.getD j 0:Nat)):=fun j hj=>by
  rw [ht.cell Mh j (by simpa using hj)]
  simp [List.getD,hj]
 have h0:=hc 0 (by decide)
 cases hh:W.heap[0]? with
 |none=>simp [World.cell?,hh] at h0
 |some o=>
  cases o with
  |cells cur e fr=>
   refine ⟨_,⟨cur,e,fr,rfl,fun j hj=> ?_⟩,rfl⟩
   have:=hc j hj
   simpa [World.cell?,hh] using this
  |_=>simp [World.cell?,hh] at h0
end
end Go.Proofs.YtgajalidbabccaaGreatDoor
namespace Go.Proofs.YtgajalidbabccaaGreatDoor
open Go PI
set_option maxRecDepth 100000
noncomputable section
abbrev Rw (S:Type):=List PU->List (Box UU)->(Out UU->Option S)->Option S
abbrev Kn (S:Type):=(Out UU->Option S)->Option S
noncomputable def iI (n:Int):PU:= .int .i64 n
noncomputable def iU (n:Int):PU:= .int .u32 n
noncomputable def pt (i:Nat):PU:= .ptr i 0
noncomputable def aT (t:Tm):PU:= .agg [.int .i64 t.kind,.int .i64 t.n,.str t.name,dS t.r .none,jq t.kids .none,eK t.sys .none]
noncomputable def aC (c:Cl):PU:= .agg [.int .u32 c.pos,.int .u32 c.neg]
noncomputable def aB (b:Br Tm):PU:= .agg [dS b.face .none,jq b.kids .none]
noncomputable def bT (t:Tm):Box UU:= .cells [.int .i64 t.kind,.int .i64 t.n,.str t.name,dS t.r .none,jq t.kids .none,eK t.sys .none]
noncomputable def bC (c:Cl):Box UU:= .cells [.int .u32 c.pos,.int .u32 c.neg]
noncomputable def bI (n:Int):Box UU:= .cells [.int .i64 n]
noncomputable def bb (b:Bool):Box UU:= .cells [.bool b]
noncomputable def sC (l:List Cl):PU:=dS l .none
noncomputable def sT (l:List Tm):PU:=jq l .none
noncomputable def sB (l:List (Br Tm)):PU:=eK l .none
structure Cd where
 D:Type->Type
 k:{ρ:Type}->ρ->D ρ
 dec:{ρ:Type}->D ρ->PU->Option ρ
 A:{ρ:Type}->D ρ->(PU->ρ->Prop)->Prop
 law: ∀ {ρ:Type} (f:D ρ) (v:PU) (r:ρ) (Q:PU->ρ->Prop),A f Q->dec f v=some r->Q v r
structure Cs where
 D:Type->Type
 n:Nat
 k:{ρ:Type}->ρ->D ρ
 dec:{ρ:Type}->D ρ->List PU->Option ρ
 A:{ρ:Type}->D ρ->(List PU->ρ->Prop)->Prop
 law: ∀ {ρ:Type} (f:D ρ) (v:List PU) (r:ρ) (Q:List PU->ρ->Prop),A f Q->dec f v=some r->Q v r
 len: ∀ {ρ:Type} (f:D ρ) (v:List PU) (r:ρ),dec f v=some r->v.length=n
structure Bs where
 D:Type->Type
 n:Nat
 k:{ρ:Type}->ρ->D ρ
 dec:{ρ:Type}->D ρ->List (Box UU)->Option ρ
 A:{ρ:Type}->D ρ->(List (Box UU)->ρ->Prop)->Prop
 law: ∀ {ρ:Type} (f:D ρ) (v:List (Box UU)) (r:ρ) (Q:List (Box UU)->ρ->Prop),A f Q->dec f v=some r->Q v r
 len: ∀ {ρ:Type} (f:D ρ) (v:List (Box UU)) (r:ρ),dec f v=some r->v.length=n
noncomputable def cn:Cs where
 D ρ:=ρ
 n:=0
 k r:=r
 dec f:=fun|[]=>some f|_=> .none
 A f Q:=Q [] f
 law f v r Q h e:=by split at e<;>cases e;exact h
 len f v r e:=by split at e<;>cases e;rfl
noncomputable def cc (c:Cd) (s:Cs):Cs where
 D ρ:=c.D (s.D ρ)
 n:=s.n+1
 k r:=c.k (s.k r)
 dec f:=fun|v::l=>(c.dec f v).bind fun g=>s.dec g l|[]=> .none
 A f Q:=c.A f fun v g=>s.A g fun l r=>Q (v::l) r
 law f v r Q h e:=by
  split at e
  ·obtain ⟨g,h1,h2⟩:=Option.bind_eq_some_iff.1 e
   have:=s.law g _ r _ (c.law f _ g _ h h1) h2;exact this
  ·cases e
 len f v r e:=by
  split at e
  ·obtain ⟨g,h1,h2⟩:=Option.bind_eq_some_iff.1 e
   simp [s.len g _ r h2]
  ·cases e
noncomputable def xn:Bs where
 D ρ:=ρ
 n:=0
 k r:=r
 dec f:=fun|[]=>some f|_=> .none
 A f Q:=Q [] f
 law f v r Q h e:=by split at e<;>cases e;exact h
 len f v r e:=by split at e<;>cases e;rfl
noncomputable def xc (c:Cs) (s:Bs):Bs where
 D ρ:=c.D (s.D ρ)
 n:=s.n+1
 k r:=c.k (s.k r)
 dec f:=fun| .cells v::l=>(c.dec f v).bind fun g=>s.dec g l|_=> .none
 A f Q:=c.A f fun v g=>s.A g fun l r=>Q (.cells v::l) r
 law f v r Q h e:=by
  split at e
  ·obtain ⟨g,h1,h2⟩:=Option.bind_eq_some_iff.1 e
   have:=s.law g _ r _ (c.law f _ g _ h h1) h2;exact this
  ·cases e
 len f v r e:=by
  split at e
  ·obtain ⟨g,h1,h2⟩:=Option.bind_eq_some_iff.1 e
   simp [s.len g _ r h2]
  ·cases e
noncomputable def cI:Cd where
 D ρ:=Int->ρ
 k r:=fun _=>r
 dec f:=fun| .int .i64 n=>some (f n)|_=> .none
 A f Q:= ∀n:Int,Q (iI n) (f n)
 law f v r Q h e:=by split at e<;>cases e;exact h _
noncomputable def cU:Cd where
 D ρ:=Int->ρ
 k r:=fun _=>r
 dec f:=fun| .int .u32 n=>some (f n)|_=> .none
 A f Q:= ∀n:Int,Q (iU n) (f n)
 law f v r Q h e:=by split at e<;>cases e;exact h _
noncomputable def cN (kd:IntKind):Cd where
 D ρ:=Int->ρ
 k r:=fun _=>r
 dec f:=fun| .int q n=>(match decEq q kd with| .isTrue _=>some (f n)| .isFalse _=> .none)|_=> .none
 A f Q:= ∀n:Int,Q (.int kd n) (f n)
 law f v r Q h e:=by
  split at e
  ·split at e
   ·rename_i hq _;subst hq;cases e;exact h _
   ·cases e
  ·cases e
noncomputable def cb:Cd where
 D ρ:=Bool->ρ
 k r:=fun _=>r
 dec f:=fun| .bool n=>some (f n)|_=> .none
 A f Q:= ∀n:Bool,Q (.bool n) (f n)
 law f v r Q h e:=by split at e<;>cases e;exact h _
noncomputable def cs:Cd where
 D ρ:=ByteArray->ρ
 k r:=fun _=>r
 dec f:=fun| .str n=>some (f n)|_=> .none
 A f Q:= ∀n:ByteArray,Q (.str n) (f n)
 law f v r Q h e:=by split at e<;>cases e;exact h _
noncomputable def lC:Cd where
 D ρ:=List Cl->ρ
 k r:=fun _=>r
 dec f:=fun| .sl .C n .none=>some (f n)|_=> .none
 A f Q:= ∀n:List Cl,Q (sC n) (f n)
 law f v r Q h e:=by split at e<;>cases e;exact h _
noncomputable def lT:Cd where
 D ρ:=List Tm->ρ
 k r:=fun _=>r
 dec f:=fun| .sl .T n .none=>some (f n)|_=> .none
 A f Q:= ∀n:List Tm,Q (sT n) (f n)
 law f v r Q h e:=by split at e<;>cases e;exact h _
noncomputable def lB:Cd where
 D ρ:=List (Br Tm)->ρ
 k r:=fun _=>r
 dec f:=fun| .sl .B n .none=>some (f n)|_=> .none
 A f Q:= ∀n:List (Br Tm),Q (sB n) (f n)
 law f v r Q h e:=by split at e<;>cases e;exact h _
noncomputable def lI:Cd where
 D ρ:=List Int->ρ
 k r:=fun _=>r
 dec f:=fun| .sl .I n .none=>some (f n)|_=> .none
 A f Q:= ∀n:List Int,Q (qI n .none) (f n)
 law f v r Q h e:=by split at e<;>cases e;exact h _
noncomputable def lF:Cd where
 D ρ:=List (List Cl)->ρ
 k r:=fun _=>r
 dec f:=fun| .sl .F n .none=>some (f n)|_=> .none
 A f Q:= ∀n:List (List Cl),Q (DZ n .none) (f n)
 law f v r Q h e:=by split at e<;>cases e;exact h _
noncomputable def hC:Cd where
 D ρ:=List Cl->ρ
 k r:=fun _=>r
 dec f:=fun| .fresh .C n=>some (f n)|_=> .none
 A f Q:= ∀n:List Cl,Q (GO n) (f n)
 law f v r Q h e:=by split at e<;>cases e;exact h _
noncomputable def hT:Cd where
 D ρ:=List Tm->ρ
 k r:=fun _=>r
 dec f:=fun| .fresh .T n=>some (f n)|_=> .none
 A f Q:= ∀n:List Tm,Q (Mc n) (f n)
 law f v r Q h e:=by split at e<;>cases e;exact h _
noncomputable def hB:Cd where
 D ρ:=List (Br Tm)->ρ
 k r:=fun _=>r
 dec f:=fun| .fresh .B n=>some (f n)|_=> .none
 A f Q:= ∀n:List (Br Tm),Q (CA n) (f n)
 law f v r Q h e:=by split at e<;>cases e;exact h _
noncomputable def nB:Cd where
 D ρ:=ρ
 k r:=r
 dec f:=fun| .sl .B l .nil=>(match (l:List (Br Tm)) with|[]=>some f|_::_=> .none)|_=> .none
 A f Q:=Q (eK [] .nil) f
 law f v r Q h e:=by
  split at e
  ·split at e
   ·cases e;exact h
   ·cases e
  ·cases e
noncomputable def cT:Cd where
 D ρ:=Tm->ρ
 k r:=fun _=>r
 dec f:=fun| .agg [.int .i64 a,.int .i64 b,.str c,.sl .C d .none,.sl .T e .none,.sl .B g .none]=>some (f (Tm.mk a b c d e g))|_=> .none
 A f Q:= ∀t:Tm,Q (aT t) (f t)
 law f v r Q h e:=by split at e<;>cases e;exact h (Tm.mk _ _ _ _ _ _)
noncomputable def cC:Cd where
 D ρ:=Cl->ρ
 k r:=fun _=>r
 dec f:=fun| .agg [.int .u32 a,.int .u32 b]=>some (f ⟨a,b⟩)|_=> .none
 A f Q:= ∀t:Cl,Q (aC t) (f t)
 law f v r Q h e:=by split at e<;>cases e;exact h (⟨_,_⟩)
noncomputable def cB:Cd where
 D ρ:=Br Tm->ρ
 k r:=fun _=>r
 dec f:=fun| .agg [.sl .C a .none,.sl .T b .none]=>some (f (Br.mk a b))|_=> .none
 A f Q:= ∀t:Br Tm,Q (aB t) (f t)
 law f v r Q h e:=by split at e<;>cases e;exact h (Br.mk _ _)
noncomputable def xT (s:Bs):Bs where
 D ρ:=Tm->s.D ρ
 n:=s.n+1
 k r:=fun _=>s.k r
 dec f:=fun| .cells [.int .i64 a,.int .i64 b,.str c,.sl .C d .none,.sl .T e .none,.sl .B g .none]::l=>s.dec (f (Tm.mk a b c d e g)) l|_=> .none
 A f Q:= ∀t:Tm,s.A (f t) fun l r=>Q (bT t::l) r
 law f v r Q h e:=by
  split at e
  ·have:=s.law _ _ r _ (h (Tm.mk _ _ _ _ _ _)) e;exact this
  ·cases e
 len f v r e:=by
  split at e
  ·simp [s.len _ _ r e]
  ·cases e
noncomputable def xC (s:Bs):Bs where
 D ρ:=Cl->s.D ρ
 n:=s.n+1
 k r:=fun _=>s.k r
 dec f:=fun| .cells [.int .u32 a,.int .u32 b]::l=>s.dec (f ⟨a,b⟩) l|_=> .none
 A f Q:= ∀t:Cl,s.A (f t) fun l r=>Q (bC t::l) r
 law f v r Q h e:=by
  split at e
  ·have:=s.law _ _ r _ (h (⟨_,_⟩)) e;exact this
  ·cases e
 len f v r e:=by
  split at e
  ·simp [s.len _ _ r e]
  ·cases e
noncomputable def xI (s:Bs):Bs where
 D ρ:=Int->s.D ρ
 n:=s.n+1
 k r:=fun _=>s.k r
 dec f:=fun| .cells [.int .i64 a]::l=>s.dec (f a) l|_=> .none
 A f Q:= ∀t:Int,s.A (f t) fun l r=>Q (bI t::l) r
 law f v r Q h e:=by
  split at e
  ·have:=s.law _ _ r _ (h _) e;exact this
  ·cases e
 len f v r e:=by
  split at e
  ·simp [s.len _ _ r e]
  ·cases e
noncomputable def cp (i:Nat):Cd where
 D ρ:=ρ
 k r:=r
 dec f:=fun| .ptr j 0=>(match decEq j i with| .isTrue _=>some f| .isFalse _=> .none)|_=> .none
 A f Q:=Q (pt i) f
 law f v r Q h e:=by
  split at e
  ·split at e
   ·rename_i hq _;subst hq;cases e;exact h
   ·cases e
  ·cases e
noncomputable def cg (s:Cs):Cd where
 D ρ:=s.D ρ
 k r:=s.k r
 dec f:=fun| .agg l=>s.dec f l|_=> .none
 A f Q:=s.A f fun l r=>Q (.agg l) r
 law f v r Q h e:=by
  split at e
  ·have:=s.law f _ r _ h e;exact this
  ·cases e
noncomputable def cf (i:Nat) (s:Cs) (u:Cs):Cd where
 D ρ:=s.D (u.D ρ)
 k r:=s.k (u.k r)
 dec f:=fun| .func j l m=>(match decEq j i with| .isTrue _=>(s.dec f l).bind fun g=>u.dec g m| .isFalse _=> .none)|_=> .none
 A f Q:=s.A f fun l g=>u.A g fun m r=>Q (.func i l m) r
 law f v r Q h e:=by
  split at e
  ·split at e
   ·rename_i hq _
    subst hq
    obtain ⟨g,h1,h2⟩:=Option.bind_eq_some_iff.1 e
    have:=u.law g _ r _ (s.law f _ g _ h h1) h2;exact this
   ·cases e
  ·cases e
noncomputable def ai {S:Type} (K:Cs) (B:Bs) (F:K.D (B.D (Kn S))):Rw S:=fun vs bs κ=>(K.dec F vs).bind fun g=>(B.dec g bs).bind fun h=>h κ
noncomputable def xG (K:Cs) (B:Bs) (vs:List PU) (bs:List (Box UU)):Bool:=((K.dec (K.k (B.k ())) vs).bind fun g=>B.dec g bs).isSome
noncomputable def AA {S:Type} (K:Cs) (B:Bs) (F:K.D (B.D (Kn S))) (Q:List PU->List (Box UU)->Kn S->Prop):Prop:=K.A F fun vs g=>B.A g fun bs h=>Q vs bs h
theorem yq {S:Type} {K:Cs} {B:Bs} {F:K.D (B.D (Kn S))} {Q:List PU->List (Box UU)->Kn S->Prop} (hA:AA K B F Q) {vs:List PU} {bs:List (Box UU)} {κ:Out UU->Option S} {x:S} (h:ai K B F vs bs κ=some x):
  ∃g,Q vs bs g/\g κ=some x/\vs.length=K.n/\bs.length=B.n:=by
 obtain ⟨g,h1,h2⟩:=Option.bind_eq_some_iff.1 h
 obtain ⟨u,h3,h4⟩:=Option.bind_eq_some_iff.1 h2
 have:=K.law F vs g _ hA h1
 have:=B.law g bs u _ this h3
 exact ⟨u,this,h4,K.len _ _ _ h1,B.len _ _ _ h3⟩
noncomputable def Tl {S:Type} (o:Obj) (f:Nat) (r:Rw S):Prop:= ∀vs bs κ x,r vs bs κ=some x-> ∃out,dZ (LL o) f vs bs out/\κ out=some x
noncomputable def yz {S:Type}:List (Nat×Rw S)->Oracle UU S
 |[],_,_,_,_=> .none
 |(g,r)::l,f,vs,bs,κ=>bif aD f g then r vs bs κ else yz l f vs bs κ
noncomputable def TA {S:Type} (o:Obj):List (Nat×Rw S)->Prop
 |[]=>True
 |(f,r)::l=>Tl o f r/\TA o l
theorem TA.tells {S:Type} {o:Obj}: ∀ {l:List (Nat×Rw S)},TA o l->(yz l).Tells (dZ (LL o))
 |[],_,f,vs,bs,κ,x,h=>by cases h
 |(g,r)::l,hl,f,vs,bs,κ,x,h=>by
  unfold yz at h
  cases hb:aD f g with
  |true=>
   rw [hb] at h
   have:=Nat.eq_of_beq_eq_true hb
   subst this
   exact hl.1 _ _ _ _ h
  |false=>
   rw [hb] at h
   exact TA.tells hl.2 _ _ _ _ _ h
noncomputable def s_ {S:Type} (b:List PU->List (Box UU)->Bool) (r q:Rw S):Rw S:=fun vs bs κ=>bif b vs bs then r vs bs κ else q vs bs κ
theorem yD {S:Type} {o:Obj} {f:Nat} {b:List PU->List (Box UU)->Bool} {r q:Rw S} (h1:Tl o f r) (h2:Tl o f q):Tl o f (s_ b r q):=fun vs bs κ x h=>by
 unfold s_ at h
 rcases Yv h with h|h
 ·exact h1 _ _ _ _ h
 ·exact h2 _ _ _ _ h
structure Fx (S:Type) where
 sd:Side UU
 rows:List (Nat×Rw S)
 loops:List (Nat×Ann×List Bool)
 k:Nat
 fn:Func
 kp:Bool
 hn:List Bool
 nb:Nat
 cd:Option (PU->Oracle UU S)
noncomputable def KF:List (Nat×Ann×List Bool)->Nat->Option Ann
 |[],_=> .none
 |(i,a,_)::l,n=>bif aD n i then some a else KF l n
noncomputable def Hp:List (Nat×Ann×List Bool)->Nat->Ann×List Bool
 |[],_=>(⟨[],[]⟩,[])
 |(i,a)::l,n=>bif aD n i then a else Hp l n
noncomputable def dw (rs:List Nat) (bs:List (Nat×Nat)):Ann:=⟨rs.map fun n=>(n,.none),bs.map fun p=>(p.1,List.replicate p.2 .none)⟩
noncomputable def a8:Nat->Nat->List Bool
 |0,_=>[]
 |n+1,b=>aD (b%2) 1::a8 n (b/2)
noncomputable def fx {S:Type} (nt:Nat) (gv:Nat->List Bool) (ip:Nat->Bool) (rows:List (Nat×Rw S)) (loops:List (Nat×Ann×List Bool)) (k:Nat) (fn:Func) (kp:Bool) (hn:List Bool) (nb:Nat):Fx S:=
 ⟨⟨nt,gv,ip,.none,fun _=>false⟩,rows,loops,k,fn,kp,hn,nb,.none⟩
noncomputable def fp {S:Type} (nt:Nat) (rows:List (Nat×Rw S)) (loops:List (Nat×Ann×List Bool)) (k:Nat) (fn:Func) (nb:Nat):Fx S:=fx nt (fun _=>[]) (fun _=>false) rows loops k fn false [] nb
variable {S:Type}
noncomputable def Fx.oc (F:Fx S):Oracle UU S:=yz F.rows
noncomputable def Fx.an (F:Fx S):Nat->Option Ann:=KF F.loops
noncomputable def Fx.go (F:Fx S) (c:Code) (σ:St UU) (κ:Ex UU->St UU->Option S):Option S:=PI.run VV F.sd F.oc F.an F.k c σ κ
noncomputable def Fx.kt (F:Fx S) (κ:Out UU->Option S) (p:List Bool) (κs:List (St UU->Option S)):Ex UU->St UU->Option S:=match F.cd with
 | .none=>oO VV F.sd F.oc F.an F.k (lR F.fn) p κs F.an (kF VV F.oc F.kp F.hn F.fn F.nb κ)
 |some C=>MZ VV F.sd F.oc F.an F.k (lR F.fn) p κs F.an (kF VV F.oc F.kp F.hn F.fn F.nb κ) (kD VV F.oc C F.kp F.hn F.fn F.nb κ)
noncomputable def Fx.run (F:Fx S) (vs:List PU) (bs:List (Box UU)) (κ:Out UU->Option S):Option S:=match F.cd with
 | .none=>vn VV F.sd F.oc F.an F.k F.kp F.hn F.fn vs bs κ
 |some C=>IJ VV F.sd F.oc F.an F.k C F.kp F.hn F.fn vs bs κ
noncomputable def Fx.A (F:Fx S) (i:Nat):Ann:=(Hp F.loops i).1
noncomputable def Fx.p (F:Fx S) (i:Nat):List Bool:=(Hp F.loops i).2
noncomputable def Fx.lp (F:Fx S) (κ:Out UU->Option S) (i:Nat) (κs:List (St UU->Option S)) (n:Nat) (σ:St UU):Option S:=
 xW (iA (F.A i)) (fun σ κ=>F.go (mw (lR F.fn) (F.p i++[false])) σ κ) n σ (F.kt κ (F.p i) κs)
noncomputable def Fx.st (F:Fx S) (κ:Out UU->Option S) (i:Nat) (κs:List (St UU->Option S)) (r:St UU->Option S) (σ:St UU):Option S:=
 F.go (mw (lR F.fn) (F.p i++[false])) σ (back (iA (F.A i)) r (F.kt κ (F.p i) κs))
noncomputable def Fx.jn (F:Fx S) (κ:Out UU->Option S) (i:Nat) (κs:List (St UU->Option S)) (n:Nat) (σ:St UU):Option S:=
 G2 (fun σ κ=>F.go (mw (lR F.fn) (F.p i)) σ κ) n σ (F.kt κ (F.p i) κs)
noncomputable def Fx.sj (F:Fx S) (κ:Out UU->Option S) (i:Nat) (κs:List (St UU->Option S)) (σ:St UU):Option S:=F.go (mw (lR F.fn) (F.p i)) σ (F.kt κ (F.p i) κs)
theorem Fx.lp_succ (F:Fx S) (κ:Out UU->Option S) (i:Nat) (κs:List (St UU->Option S)) (n:Nat) (σ:St UU):F.lp κ i κs (n+1) σ=F.st κ i κs (fun τ=>F.lp κ i κs n τ) σ:=rfl
theorem Fx.jn_succ (F:Fx S) (κ:Out UU->Option S) (i:Nat) (κs:List (St UU->Option S)) (n:Nat) (σ:St UU):F.jn κ i κs (n+1) σ=F.sj κ i κs σ:=rfl
noncomputable def uW (F:Fx S) (n m:Nat):Bool:=(F.fn.name== "runtime.NumGoroutine")==false&&(F.fn.body.isNone==false&&(aD F.fn.ntmps F.sd.nt&&(dK F.sd.nt 1000000&&(dK n F.sd.nt&&dK m 1000000))))
theorem HL {F:Fx S} {n m:Nat} (h:uW F n m=true):(F.fn.name== "runtime.NumGoroutine")=false/\F.fn.body.isNone=false/\F.fn.ntmps=F.sd.nt/\F.sd.nt<=1000000/\n<=F.sd.nt/\m<=1000000:=by
 unfold uW at h
 simp only [ak,beq_iff_eq] at h
 obtain ⟨h1,h2,h3,h4,h5,h6⟩:=h
 exact ⟨h1,h2,Nat.eq_of_beq_eq_true h3,Nat.le_of_ble_eq_true h4,Nat.le_of_ble_eq_true h5,Nat.le_of_ble_eq_true h6⟩
theorem tlG {o:Obj} {K:Cs} {B:Bs} {R:K.D (B.D (Kn S))} (F:Fx S) {f:FuncId} (ht:TA o F.rows) (hf:Tryz.prog.funcs[f]? =some F.fn) (hb:uW F K.n B.n=true) (run:AA K B R fun vs bs g=> ∀κ x,g κ=some x->F.run vs bs κ=some x)
  (h1:F.sd.rcv= .none:=by rfl) (h2:F.sd.pin=(fun _=>false):=by rfl) (h3:F.cd= .none:=by rfl):Tl o f (ai K B R):=fun vs bs κ x h=>by
 obtain ⟨g,hg,hx,hl,hm⟩:=yq run h
 have hr:=hg κ x hx
 unfold Fx.run at hr
 rw [h3] at hr
 obtain ⟨b1,b2,b3,b4,b5,b6⟩:=HL hb
 exact sw (Rt C4 (CF o) h1 h2 ht.tells hf b1 b2 b3 b4 (by omega) hr)
open Classical in
noncomputable def A0 {S:Type} (bs:List (Box UU)) (κ:Out UU->Option S):Out UU->Option S
 | .ret v cs=>if cs=bs then κ (.ret v []) else .none
 | .panic .. => .none
theorem SU {S:Type} {o:Obj} {K:Cs} {B:Bs} {R:K.D (B.D (Kn S))} {f:FuncId} {r:Rw S} (h:Tl o f r) (run:AA K B R fun vs bs g=> ∀κ x,g κ=some x->r vs bs (A0 bs κ)=some x):Tl o f (ai K B R):=fun vs bs κ x hx=>by
 obtain ⟨g,hg,hx,_⟩:=yq run hx
 obtain ⟨out,hok,hκ⟩:=h _ _ _ _ (hg κ x hx)
 cases out with
 |panic v cs=>cases hκ
 |ret v cs=>
  simp only [A0] at hκ
  split at hκ
  case isFalse=>cases hκ
  rename_i hc
  subst hc
  refine ⟨.ret v [], ?_,hκ⟩
  have e:Out.full cs (.ret v [])=Out.full cs (.ret v cs):=by
   have hb:dK cs.length cs.length=true:=by simp
   simp only [Out.full,hb,cond_true]
   cases cs<;>rfl
  unfold dZ
  rw [e]
  exact hok
open Classical in
noncomputable def wK {S:Type} (n m:Nat) (bs:List (Box UU)) (κ:Out UU->Option S):Out UU->Option S
 | .ret v cs=>match cs[n]? with
  |some (.cells a)=>if dK bs.length 1=false/\pd bs [.cells (.int .i64 n::a.take m)]=cs then κ (.ret v [.cells (.int .i64 n::a.take m)]) else .none
  |_=> .none
 | .panic .. => .none
theorem JY {S:Type} {o:Obj} {K:Cs} {B:Bs} {R:K.D (B.D (Kn S))} {f:FuncId} {r:Rw S} {n m:Nat} (h:Tl o f r) (run:AA K B R fun vs bs g=> ∀κ x,g κ=some x->r vs bs (wK n m bs κ)=some x):Tl o f (ai K B R):=fun vs bs κ x hx=>by
 obtain ⟨g,hg,hx,_⟩:=yq run hx
 obtain ⟨out,hok,hκ⟩:=h _ _ _ _ (hg κ x hx)
 cases out with
 |panic v cs=>cases hκ
 |ret v cs=>
  simp only [wK] at hκ
  split at hκ
  case h_2=>cases hκ
  rename_i a ha
  split at hκ
  case isFalse=>cases hκ
  rename_i hc
  obtain ⟨hl,hc⟩:=hc
  refine ⟨.ret v _, ?_,hκ⟩
  have e:Out.full bs (.ret v [.cells (.int .i64 n::a.take m)])=Out.full bs (.ret v cs):=by
   have h1:Out.full bs (.ret v [.cells (.int .i64 n::a.take m)])= .ret v cs:=by
    simp only [Out.full]
    rw [show [(Box.cells (.int .i64 n::a.take m):Box UU)].length=1 from rfl,hl,cond_false,hc]
   have h2:cs.length=bs.length:=by
    rw [<-hc];unfold pd;split<;>(try split)<;>simp
   have h3:dK bs.length cs.length=true:=by rw [h2];simp
   rw [h1]
   simp only [Out.full,h3,cond_true]
  unfold dZ
  rw [e]
  exact hok
theorem kI {o:Obj} {K:Cs} {B:Bs} {R:K.D (B.D (Kn S))} {f:FuncId} (h0:AA K B R fun vs bs g=> ∀κ x,g κ=some x->False):Tl o f (ai K B R):=fun vs bs κ x h=>by
 obtain ⟨g,hg,hx,_⟩:=yq h0 h
 exact (hg κ x hx).elim
noncomputable def tA (nt f:Nat) (fn:Func) (k:Nat):PU->Oracle UU S:=fun v g vs bs κ=>bif aD g f&&dK vs.length nt then IK VV ⟨nt,fun _=>[],fun _=>false,.none,fun _=>false⟩ (yz []) (fun _=> .none) k true [] fn v vs bs κ else .none
theorem AV (o:Obj) {nt f:Nat} {fn:Func} {k:Nat} (hf:Tryz.prog.funcs[f]? =some fn) (hb:uW (fp nt [] [] k fn 0:Fx S) 0 0=true): ∀v u u',RcvOK v u u'->(tA (S:=S) nt f fn k v).Tells (ng (LL o) (n7 Tryz.prog u u')):=by
 intro v u u' hv g vs bs κ x h
 unfold tA at h
 cases hc:aD g f&&dK vs.length nt with
 |false=>rw [hc] at h;cases h
 |true=>
  rw [hc] at h
  rw [ak] at hc
  have:=Nat.eq_of_beq_eq_true hc.1
  subst this
  obtain ⟨b1,b2,b3,b4,_,_⟩:=HL hb
  exact sw (ah0 C4 (CF o) rfl rfl (TA.tells (l:=[]) (o:=o) trivial) hf b1 b2 b3 b4 hv (Nat.le_of_ble_eq_true hc.2) h)
theorem Eh {o:Obj} {K:Cs} {B:Bs} {R:K.D (B.D (Kn S))} (F:Fx S) {f:FuncId} {C:PU->Oracle UU S} (h3:F.cd=some C) (hC: ∀v u u',RcvOK v u u'->(C v).Tells (ng (LL o) (n7 Tryz.prog u u'))) (ht:TA o F.rows) (hf:Tryz.prog.funcs[f]? =some F.fn) (hb:uW F K.n B.n=true)
  (run:AA K B R fun vs bs g=> ∀κ x,g κ=some x->F.run vs bs κ=some x) (h1:F.sd.rcv= .none:=by rfl):Tl o f (ai K B R):=fun vs bs κ x h=>by
 obtain ⟨g,hg,hx,hl,hm⟩:=yq run h
 have hr:=hg κ x hx
 unfold Fx.run at hr
 rw [h3] at hr
 obtain ⟨b1,b2,b3,b4,b5,b6⟩:=HL hb
 exact sw (ahY C4 (CF o) h1 ht.tells hC hf b1 b2 b3 b4 (by omega) (by omega) hr)
theorem am {o:Obj} {K:Cs} {B:Bs} {R:K.D (B.D (Kn S))} (F:Fx S) {f:FuncId} (ht:TA o F.rows) (hf:Tryz.prog.funcs[f]? =some F.fn) (run:AA K B R fun vs bs g=> ∀κ x,g κ=some x->F.run vs bs κ=some x) (hb:uW F K.n B.n=true:=by kernel_rfl)
  (h1:F.sd.rcv= .none:=by rfl) (h2:F.sd.pin=(fun _=>false):=by rfl) (h3:F.cd= .none:=by rfl):Tl o f (ai K B R):=tlG F ht hf hb run h1 h2 h3
theorem My {F:Fx S} {κ:Out UU->Option S} {i:Nat} {κs:List (St UU->Option S)} {mk:St UU} {l:Nat->Option S} (b:Option S) (h0:l 0= .none:=by rfl) (hs: ∀n,l (n+1)=b:=by intros;rfl) (B:F.sj κ i κs mk=b:=by intros;kernel_rfl): ∀ (n:Nat),F.jn κ i κs n mk=l n:=by
 intro n
 cases n with
 |zero=>intros;rw [h0];rfl
 |succ n=>intros;rw [hs,Fx.jn_succ];exact B
theorem jl {F:Fx S} {κ:Out UU->Option S} {i:Nat} {κs:List (St UU->Option S)} {α0:Type} {mk:α0->St UU} {l:Nat->α0->Option S} (b:(α0->Option S)->α0->Option S) (h0:l 0=fun x0=> .none:=by rfl) (hs: ∀n,l (n+1)=b (l n):=by intros;rfl) (B: ∀ (r:St UU->Option S) x0,F.st κ i κs r (mk x0)=b (fun x0=>r (mk x0)) x0:=by intros;kernel_rfl): ∀ (n:Nat) x0,F.lp κ i κs n (mk x0)=l n x0:=by
 intro n
 induction n with
 |zero=>intros;rw [h0];rfl
 |succ n ih=>
  intros
  rw [hs,Fx.lp_succ,B]
  exact congrArg (fun g=>b g _) (funext fun x0=>ih x0)
theorem Mz {F:Fx S} {κ:Out UU->Option S} {i:Nat} {κs:List (St UU->Option S)} {α0:Type} {mk:α0->St UU} {l:Nat->α0->Option S} (b:α0->Option S) (h0:l 0=fun x0=> .none:=by rfl) (hs: ∀n,l (n+1)=b:=by intros;rfl) (B: ∀x0,F.sj κ i κs (mk x0)=b x0:=by intros;kernel_rfl): ∀ (n:Nat) x0,F.jn κ i κs n (mk x0)=l n x0:=by
 intro n
 cases n with
 |zero=>intros;rw [h0];rfl
 |succ n=>intros;rw [hs,Fx.jn_succ];exact B _
theorem dp {F:Fx S} {κ:Out UU->Option S} {i:Nat} {κs:List (St UU->Option S)} {α0 α1:Type} {mk:α0->α1->St UU} {l:Nat->α0->α1->Option S} (b:(α0->α1->Option S)->α0->α1->Option S) (h0:l 0=fun x0 x1=> .none:=by rfl) (hs: ∀n,l (n+1)=b (l n):=by intros;rfl) (B: ∀ (r:St UU->Option S) x0 x1,F.st κ i κs r (mk x0 x1)=b (fun x0 x1=>r (mk x0 x1)) x0 x1:=by intros;kernel_rfl): ∀ (n:Nat) x0 x1,F.lp κ i κs n (mk x0 x1)=l n x0 x1:=by
 intro n
 induction n with
 |zero=>intros;rw [h0];rfl
 |succ n ih=>
  intros
  rw [hs,Fx.lp_succ,B]
  exact congrArg (fun g=>b g _ _) (funext fun x0=>funext fun x1=>ih x0 x1)
theorem jn2 {F:Fx S} {κ:Out UU->Option S} {i:Nat} {κs:List (St UU->Option S)} {α0 α1:Type} {mk:α0->α1->St UU} {l:Nat->α0->α1->Option S} (b:α0->α1->Option S) (h0:l 0=fun x0 x1=> .none:=by rfl) (hs: ∀n,l (n+1)=b:=by intros;rfl) (B: ∀x0 x1,F.sj κ i κs (mk x0 x1)=b x0 x1:=by intros;kernel_rfl): ∀ (n:Nat) x0 x1,F.jn κ i κs n (mk x0 x1)=l n x0 x1:=by
 intro n
 cases n with
 |zero=>intros;rw [h0];rfl
 |succ n=>intros;rw [hs,Fx.jn_succ];exact B _ _
theorem lm {F:Fx S} {κ:Out UU->Option S} {i:Nat} {κs:List (St UU->Option S)} {α0 α1 α2:Type} {mk:α0->α1->α2->St UU} {l:Nat->α0->α1->α2->Option S} (b:(α0->α1->α2->Option S)->α0->α1->α2->Option S) (h0:l 0=fun x0 x1 x2=> .none:=by rfl) (hs: ∀n,l (n+1)=b (l n):=by intros;rfl) (B: ∀ (r:St UU->Option S) x0 x1 x2,F.st κ i κs r (mk x0 x1 x2)=b (fun x0 x1 x2=>r (mk x0 x1 x2)) x0 x1 x2:=by intros;kernel_rfl): ∀ (n:Nat) x0 x1 x2,F.lp κ i κs n (mk x0 x1 x2)=l n x0 x1 x2:=by
 intro n
 induction n with
 |zero=>intros;rw [h0];rfl
 |succ n ih=>
  intros
  rw [hs,Fx.lp_succ,B]
  exact congrArg (fun g=>b g _ _ _) (funext fun x0=>funext fun x1=>funext fun x2=>ih x0 x1 x2)
theorem afq {F:Fx S} {κ:Out UU->Option S} {i:Nat} {κs:List (St UU->Option S)} {α0 α1 α2 α3 α4 α5 α6 α7 α8 α9 α10:Type} {mk:α0->α1->α2->α3->α4->α5->α6->α7->α8->α9->α10->St UU} {l:Nat->α0->α1->α2->α3->α4->α5->α6->α7->α8->α9->α10->Option S} (b:(α0->α1->α2->α3->α4->α5->α6->α7->α8->α9->α10->Option S)->α0->α1->α2->α3->α4->α5->α6->α7->α8->α9->α10->Option S) (h0:l 0=fun x0 x1 x2 x3 x4 x5 x6 x7 x8 x9 x10=> .none:=by rfl) (hs: ∀n,l (n+1)=b (l n):=by intros;rfl) (B: ∀ (r:St UU->Option S) x0 x1 x2 x3 x4 x5 x6 x7 x8 x9 x10,F.st κ i κs r (mk x0 x1 x2 x3 x4 x5 x6 x7 x8 x9 x10)=b (fun x0 x1 x2 x3 x4 x5 x6 x7 x8 x9 x10=>r (mk x0 x1 x2 x3 x4 x5 x6 x7 x8 x9 x10)) x0 x1 x2 x3 x4 x5 x6 x7 x8 x9 x10:=by intros;kernel_rfl): ∀ (n:Nat) x0 x1 x2 x3 x4 x5 x6 x7 x8 x9 x10,F.lp κ i κs n (mk x0 x1 x2 x3 x4 x5 x6 x7 x8 x9 x10)=l n x0 x1 x2 x3 x4 x5 x6 x7 x8 x9 x10:=by
 intro n
 induction n with
 |zero=>intros;rw [h0];rfl
 |succ n ih=>
  intros
  rw [hs,Fx.lp_succ,B]
  exact congrArg (fun g=>b g _ _ _ _ _ _ _ _ _ _ _) (funext fun x0=>funext fun x1=>funext fun x2=>funext fun x3=>funext fun x4=>funext fun x5=>funext fun x6=>funext fun x7=>funext fun x8=>funext fun x9=>funext fun x10=>ih x0 x1 x2 x3 x4 x5 x6 x7 x8 x9 x10)
end
end Go.Proofs.YtgajalidbabccaaGreatDoor
namespace Go.Proofs.YtgajalidbabccaaGreatDoor
open Go PI
set_option maxRecDepth 100000
noncomputable def zA:Side UU:=⟨8,fun _=>[],fun _=>false,.none,fun _=>false⟩
noncomputable def C8 {S:Type}:Oracle UU S:=fun _ _ _ _=> .none
theorem c1 {S:Type} (κ:Out UU->Option S):vn VV zA C8 (fun _=> .none) 5 false [] Tryz.f91 [.sl (U:=UU) ET.C [] .void] [] κ=κ (.ret (dS [] .none) []):=by kernel_rfl
theorem c2 {S:Type} (l:List Cl) (κ:Out UU->Option S):vn VV zA C8 (fun _=> .none) 5 false [] Tryz.f91 [.sl (U:=UU) ET.C l .sure] [] κ=ag (bQ 1099511627776 0 l.length) fun _=>κ (.ret (dS l .none) []):=by kernel_rfl
theorem agn {S:Type} (o:Obj):(C8 (S:=S)).Tells (dZ (LL o)):=fun _ _ _ _ _ h=>by cases h
theorem K0 (o:Obj) {args:List PU} (hl:args.length=1) {out:Out UU} (h:vn VV zA C8 (fun _=> .none) 5 false [] Tryz.f91 args [] some=some out):dZ (LL o) 91 args [] out:=by
 obtain ⟨out',h1,h2⟩:=Rt C4 (CF o) (S:=zA) rfl rfl (agn o) (f:=91) Tryz.func91 (by kernel_rfl) rfl rfl (by decide) (by rw [hl];decide) h
 injection h1 with h1
 exact h1▸h2
theorem Ml {X:Link VV Tryz.prog} {w:World} {vs:Array Value} {N0:aX} {ν:Nat->Nat} {δ:Nat->Option Nat} {ο:Nat->Array Value} {p q:PU} (h:Given X w vs N0 ν δ ο [p] [])
  (hr:RepG X w (NB N0 0 ν δ) (gB UU 0 ν) (vs.getD 0 undef) (δ 0) p->RepG X w (NB N0 0 ν δ) (gB UU 0 ν) (vs.getD 0 undef) (δ 0) q):Given X w vs N0 ν δ ο [q] []:=
 {h with
  args:=fun j r hj=>by
   cases j with
   |zero=>
    injection hj with hj
    subst hj
    exact hr (h.args 0 p rfl)
   |succ j=>simp at hj}
theorem Y2 (o:Obj) (l:List Cl) {u:Unit} (hroom:bQ 1099511627776 0 l.length=some u):dZ (LL o) 91 [dS l .none] [] (.ret (dS l .none) []):=by
 refine ⟨⟨Tryz.f91,Tryz.func91,by kernel_rfl,rfl⟩,fun w vs N0 ν δ ο hg=> ?_⟩
 have h0:Rep (LL o) w (NB N0 0 ν δ) (gB UU 0 ν) (vs.getD 0 undef) (dS l .none):=hg.args 0 _ rfl
 generalize hv:vs.getD 0 undef=v at h0
 cases h0 with
 |sl A n c _ _ _ val hl hc _ h1 h2=>
 cases A with
 |none=>
  have hl0:l=[]:=by
   cases l with
   |nil=>rfl
   |cons x r=>
    obtain ⟨a,ha,_⟩:=h1 0 x rfl 0 _ rfl
    cases ha
  subst hl0
  exact (K0 o (args:=[dS [] .void]) rfl (c1 some)).2 w vs N0 ν δ ο (Ml hg fun _=>by
   rw [hv];exact Rep.sl (X:=LL o) none n c ET.C (show List Cl from []) .void val hl hc rfl h1 h2)
 |some a=>
  refine (K0 o (args:=[dS l .sure]) rfl (out:= .ret (dS l .none) []) ((c2 l some).trans (by rw [hroom];rfl))).2 w vs N0 ν δ ο (Ml hg fun _=> ?_)
  rw [hv]
  exact Rep.sl (X:=LL o) (some a) n c ET.C l .sure val hl hc (fun h=>by cases h) h1 h2
theorem akf {S:Type} (o:Obj) (ho:aj o) (vs:List PU) (bs:List (Box UU)) (κ:Out UU->Option S) (x:S) (h:IH vs bs κ=some x): ∃out,dZ (LL o) abH vs bs out/\κ out=some x:=by
 unfold IH at h
 split at h
 case h_2=>cases h
 rename_i κ y
 unfold u4 at h
 obtain ⟨u,hr,h⟩:=Option.bind_eq_some_iff.1 h
 exact ⟨_,Y2 o y hr,h⟩
end Go.Proofs.YtgajalidbabccaaGreatDoor
namespace Go.Proofs.YtgajalidbabccaaGreatDoor
open Go PI
set_option maxRecDepth 100000
noncomputable section
variable {S:Type}
noncomputable abbrev gP:Ob UU:=⟨0,ET.B,([]:List (Br Tm))⟩
noncomputable abbrev je:Ob UU:=⟨0,ET.T,([]:List Tm)⟩
noncomputable abbrev iP:Ob UU:=⟨0,ET.C,([]:List Cl)⟩
noncomputable abbrev jv:PV UU:= .str au
abbrev aQ (n:Nat):Option (Nat×Bool):=some (n,true)
abbrev ab {α:Type}:Option α:= .none
theorem ay {R S:Type} {k:Nat} {f:(R->Option S)->Option S} {g:R->Option S} {a:Option S} {x:S} (h:aa k f g=some x) (e:a=f g:=by kernel_rfl):a=some x:=e.trans (dt h)
def CJ:Cs:=cc cT (cc cI cn)
def G3:Cs:=cc cI (cc lT cn)
def kX2:Cs:=cc cI (cc cI cn)
def CO:Cs:=cc cT (cc cI (cc cI (cc (cp 0) cn)))
def dN:Bs:=xI xn
def kX5:Cs:=cc cT (cc (cf 198 cn (cc (cp 0) cn)) cn)
def kX6:Cs:=cc cT (cc (cf 200 cn (cc (cp 0) cn)) cn)
def TL:Bs:=xc (cc (cf 199 cn (cc (cp 1) (cc (cp 0) cn))) cn) (xI xn)
def MT:Cs:=cc cT (cc (cp 0) (cc (cp 1) cn))
def xX9:Bs:=xI (xc (cc (cf 199 cn (cc (cp 0) (cc (cp 1) cn))) cn) xn)
def ko:Cs:=cc cT cn
def nK:Cs:=cc cI cn
def acP:Cs:=cc cs cn
def G4:Cs:=cc cU cn
def CL:Cs:=cc cC cn
def MD:Cs:=cc cC (cc cC cn)
def CM:Cs:=cc cC (cc (cp 0) cn)
def zr:Bs:=xC xn
def ME:Cs:=cc lC (cc (cf 228 cn (cc (cp 0) cn)) cn)
def ak_:Bs:=xc (cc lC cn) xn
def oL:Cs:=cc lC cn
def rS:Cs:=cc lC (cc lC cn)
def CN:Cs:=cc cU (cc cI cn)
def MF:Cs:=cc lC (cc cI cn)
def MG:Cs:=cc lC (cc (cf 269 cn cn) cn)
def ue:Cs:=cc cT (cc cI (cc cI cn))
def acV:Cs:=cc cT (cc cI (cc cI (cc cb cn)))
def acW:Cs:=cc cT (cc cI (cc cI (cc (cp 0) (cc (cp 1) (cc (cp 2) cn)))))
def TI:Bs:=xI (xI (xc (cc cb cn) xn))
def acX:Cs:=cc cT (cc (cf 117 cn (cc (cp 0) (cc (cp 1) (cc (cp 2) cn)))) cn)
def MH:Cs:=cc lT cn
def MI:Cs:=cc (cp 0) (cc cT (cc cI cn))
def xO:Cs:=cc (cp 0) cn
def oM:Cs:=cc (cp 0) (cc cT cn)
def MJ:Cs:=cc lF cn
def acY:Cs:=cc cU (cc cI (cc cI cn))
def acZ:Cs:=cc cC (cc cI (cc cI cn))
def ac0:Cs:=cc hC (cc cC (cc (cp 0) (cc (cp 1) cn)))
def Ey:Bs:=xI (xI xn)
def ac1:Cs:=cc lC (cc hC (cc (cf 144 cn (cc (cp 0) (cc (cp 1) cn))) cn))
def ac2:Cs:=cc lC (cc cI (cc cI cn))
def ac3:Cs:=cc (cg (cc cI (cc cI cn))) (cc lC (cc cI cn))
def ac4:Cs:=cc (cg (cc cI (cc cI cn))) (cc cT (cc cI (cc cI cn)))
def G5:Cs:=cc (cp 0) (cc (cp 1) (cc (cp 2) cn))
def TJ:Bs:=xI (xI (xT xn))
def ac5:Cs:=cc cT (cc lI (cc (cf 206 cn (cc (cp 0) (cc (cp 1) (cc (cp 2) cn)))) cn))
def G6:Cs:=cc (cp 0) (cc cT (cc cI (cc cI cn)))
def ac6:Cs:=cc (cp 0) (cc cI cn)
def MK:Cs:=cc (cp 0) (cc lC cn)
def ac7:Cs:=cc (cp 0) (cc lC (cc lC cn))
def Ez:Bs:=xI (xT (xI xn))
def ac9:Cs:=cc cT (cc lI (cc (cf 84 cn (cc (cp 0) (cc (cp 1) (cc (cp 2) cn)))) cn))
def ML:Cs:=cc cT (cc cI (cc lC cn))
def MM:Cs:=cc (cf 152 cn cn) (cc (cp 0) (cc (cp 1) cn))
def zt:Bs:=xI (xc (cc lC cn) xn)
def ac_:Cs:=cc (cf 153 cn cn) (cc (cp 0) (cc (cp 1) cn))
def ada:Cs:=cc cI (cc lC cn)
def adb:Cs:=cc lC (cc (cf 284 cn cn) cn)
def adc:Cs:=cc lC (cc (cf 285 cn (cc (cp 0) cn)) cn)
def ade:Cs:=cc lC (cc cC cn)
def adg:Cs:=cc lC (cc lC (cc (cf 282 cn cn) cn))
def MN:Cs:=cc lC (cc cI (cc lC cn))
def G7:Cs:=cc lC (cc cI (cc (cp 0) (cc (cp 1) (cc (cp 2) cn))))
def ala:Bs:=xI (xc (cc lC cn) (xc (cc (cf 153 cn cn) cn) xn))
def adh:Cs:=cc lC (cc cC (cc (cp 0) (cc (cp 1) cn)))
def adi:Cs:=cc lC (cc lC (cc (cf 235 cn (cc (cp 0) (cc (cp 1) cn))) cn))
def TK:Bs:=xI (xc (cc lC cn) (xc (cc (cf 152 cn cn) cn) xn))
def G8:Cs:=cc (cg (cc (cf 148 cn (cc (cp 0) (cc (cp 1) (cc (cp 2) cn)))) (cc (cf 148 cn (cc (cp 0) (cc (cp 1) (cc (cp 3) cn)))) cn))) (cc cT (cc cI cn))
def Kt:Bs:=xI (xc (cc lC cn) (xc (cc (cf 152 cn cn) cn) (xc (cc (cf 153 cn cn) cn) xn)))
def MO:Cs:=cc cI (cc (cp 0) cn)
def alb:Bs:=xT xn
def MP:Cs:=cc (cg (cc (cf 148 cn (cc (cp 0) (cc (cp 1) (cc (cp 2) cn)))) (cc (cf 148 cn (cc (cp 0) (cc (cp 1) (cc (cp 3) cn)))) cn))) (cc lT (cc cI (cc (cf 157 cn (cc (cp 4) cn)) cn)))
def TM:Bs:=xI (xc (cc lC cn) (xc (cc (cf 152 cn cn) cn) (xc (cc (cf 153 cn cn) cn) (xI xn))))
def adj:Cs:=cc (cg (cc (cf 148 cn (cc (cp 0) (cc (cp 1) (cc (cp 2) cn)))) (cc (cf 148 cn (cc (cp 0) (cc (cp 1) (cc (cp 3) cn)))) cn))) (cc lT (cc cI (cc (cf 156 cn (cc (cp 4) cn)) cn)))
def alc:Bs:=xI (xc (cc lC cn) (xc (cc (cf 152 cn cn) cn) (xc (cc (cf 153 cn cn) cn) (xT xn))))
def adk:Cs:=cc lC (cc cI (cc (cp 0) cn))
def MQ:Cs:=cc (cg (cc (cf 158 cn (cc (cp 0) cn)) (cc (cf 158 cn (cc (cp 0) cn)) cn))) (cc cT (cc cI cn))
def MS:Cs:=cc (cg (cc (cf 158 cn (cc (cp 0) cn)) (cc (cf 158 cn (cc (cp 0) cn)) cn))) (cc lT (cc cI (cc (cf 157 cn (cc (cp 1) cn)) cn)))
def adl:Cs:=cc (cg (cc (cf 158 cn (cc (cp 0) cn)) (cc (cf 158 cn (cc (cp 0) cn)) cn))) (cc lT (cc cI (cc (cf 156 cn (cc (cp 1) cn)) cn)))
def ald:Bs:=xI (xT xn)
def MU:Cs:=cc (cp 0) (cc cT (cc lC cn))
def adm:Cs:=cc cT (cc lC (cc cT (cc cC (cc lC cn))))
def MV:Cs:=cc cT (cc lC (cc cT cn))
def MW:Cs:=cc (cp 0) (cc cT (cc lC (cc cT cn)))
def adn:Cs:=cc cT (cc lI (cc (cf 259 cn (cc (cp 0) (cc (cp 1) (cc (cp 2) cn)))) cn))
def ado:Cs:=cc cT (cc (cf 296 cn (cc (cp 0) cn)) cn)
def adp:Cs:=cc cT (cc cI (cc cT (cc cI (cc cI cn))))
def adq:Cs:=cc cT (cc (cf 298 cn (cc (cp 0) cn)) cn)
def adr:Cs:=cc cT (cc cI (cc cT cn))
def CQ:Cs:=cc (cp 0) (cc cT (cc cT cn))
def ads:Cs:=cc cI (cc lC (cc lT cn))
def vH:Bs:=xc (cc cI (cc lC (cc cI (cc cI (cc cs (cc lC (cc lT (cc lB cn)))))))) xn
def adt:Cs:=cc cI (cc cC (cc (cp 0) (cc (cp 1) (cc (cp 2) cn))))
def alf:Bs:=xc (cc (cp 3) cn) (xT (xT (xc (cc cI (cc lC (cc cI (cc cI (cc cs (cc lC (cc lT (cc lB cn)))))))) xn)))
def adu:Cs:=cc (cp 0) (cc lC (cc cI cn))
def adv:Cs:=cc lC (cc lT cn)
def adw:Cs:=cc lB cn
def adx:Cs:=cc cT (cc cT (cc lB cn))
def ady:Cs:=cc (cp 0) (cc cT (cc cT (cc lB cn)))
def adz:Cs:=cc cI (cc lB (cc lT cn))
def acF:Cs:=cc cB cn
def acG:Cs:=cc lB (cc (cf 118 cn cn) cn)
def acH:Cs:=cc cT (cc lB cn)
def acI:Cs:=cc lC (cc (cf 273 cn (cc (cp 0) cn)) cn)
def CK:Cs:=cc (cp 0) (cc (cp 1) cn)
def Ks:Bs:=xc (cc (cp 2) cn) (xT (xc (cc cI (cc lC (cc cI (cc cI (cc cs (cc lC (cc lT (cc lB (cc lB (cc cI (cc cI (cc cs (cc lC (cc lT (cc lB (cc cI (cc cI (cc cs (cc lC (cc lT (cc lB cn))))))))))))))))))))) xn))
def acJ:Cs:=cc (cp 0) (cc (cf 132 cn (cc (cp 1) (cc (cp 2) cn))) cn)
def ak5:Bs:=xc (cc cI (cc lC (cc cI (cc cI (cc cs (cc lC (cc lT (cc lB (cc lB (cc cI (cc cI (cc cs (cc lC (cc lT (cc lB (cc cI (cc cI (cc cs (cc lC (cc lT (cc lB cn))))))))))))))))))))) (xc (cc (cp 0) cn) (xT xn))
def MB:Cs:=cc cB (cc (cp 0) cn)
def vG:Bs:=xc (cc (cp 1) cn) (xc (cc cI (cc lC (cc cI (cc cI (cc cs (cc lC (cc lT (cc lB (cc lB (cc cI (cc cI (cc cs (cc lC (cc lT (cc lB (cc cI (cc cI (cc cs (cc lC (cc lT (cc lB cn))))))))))))))))))))) xn)
def acK:Cs:=cc lB (cc (cf 133 cn (cc (cp 0) cn)) cn)
def ak6:Bs:=xc (cc cI (cc lC (cc cI (cc cI (cc cs (cc lC (cc lT (cc lB (cc nB (cc cI (cc cI (cc cs (cc lC (cc lT (cc lB (cc cI (cc cI (cc cs (cc lC (cc lT (cc lB cn))))))))))))))))))))) xn
def MC:Cs:=cc (cp 0) (cc cT (cc cT (cc cT (cc cT cn))))
def acL:Cs:=cc cT (cc cT (cc cT (cc cT cn)))
def Ew:Bs:=xc (cc (cf 135 cn (cc (cp 1) (cc (cp 2) cn))) cn) (xc (cc (cp 3) cn) (xT (xc (cc cI (cc lC (cc cI (cc cI (cc cs (cc lC (cc lT (cc lB (cc lB (cc cI (cc cI (cc cs (cc lC (cc lT (cc lB (cc cI (cc cI (cc cs (cc lC (cc lT (cc lB cn))))))))))))))))))))) xn)))
def acM:Cs:=cc (cp 0) (cc (cf 137 cn (cc (cp 1) (cc (cp 2) cn))) cn)
def ak7:Bs:=xc (cc cI (cc lC (cc cI (cc cI (cc cs (cc lC (cc lT (cc lB (cc lB (cc cI (cc cI (cc cs (cc lC (cc lT (cc lB (cc cI (cc cI (cc cs (cc lC (cc lT (cc lB cn))))))))))))))))))))) (xc (cc (cf 135 cn (cc (cp 2) (cc (cp 3) cn))) cn) (xc (cc (cp 0) cn) (xT xn)))
def acN:Cs:=cc cB (cc (cp 0) (cc (cp 1) cn))
def acO:Cs:=cc lB (cc (cf 138 cn (cc (cp 0) (cc (cp 1) cn))) cn)
def ak8:Bs:=xc (cc cI (cc lC (cc cI (cc cI (cc cs (cc lC (cc lT (cc lB (cc lB (cc cI (cc cI (cc cs (cc lC (cc lT (cc lB (cc cI (cc cI (cc cs (cc lC (cc lT (cc lB cn))))))))))))))))))))) xn
def acQ:Cs:=cc lB (cc (cf 69 cn (cc (cp 0) cn)) cn)
def acR:Cs:=cc (cp 0) (cc (cf 72 cn (cc (cp 1) cn)) cn)
def ak9:Bs:=xc (cc cI (cc lC (cc cI (cc cI (cc cs (cc lC (cc lT (cc lB (cc lB (cc cI (cc cI (cc cs (cc lC (cc lT (cc lB (cc cI (cc cI (cc cs (cc lC (cc lT (cc lB cn))))))))))))))))))))) (xc (cc (cp 0) cn) xn)
def acS:Cs:=cc cT (cc cT cn)
def acT:Cs:=cc lT (cc lT cn)
def bY (κ:Out UU->Option S):Int->Option S:=fun r=>κ (.ret (iI r) [])
def De (κ:Out UU->Option S):Int×Int×ByteArray×List Tm->Option S:=fun r=>κ (.ret (.agg [(iI r.1),(iI r.2.1),(.str r.2.2.1),(dS [] .nil),(sT r.2.2.2),(eK [] .nil)]) [])
def qX2 (κ:Out UU->Option S):Int×Int->Option S:=fun r=>κ (.ret (.tuple [(iI r.1),(iI r.2)]) [])
def cW (κ:Out UU->Option S):Bool->Option S:=fun r=>κ (.ret (.bool r) [])
def jM (c0:Int) (κ:Out UU->Option S):Bool->Option S:=fun r=>κ (.ret (.bool r) [bI c0])
def lw (κ:Out UU->Option S):Bool×Int->Option S:=fun r=>κ (.ret (.bool r.1) [.cells [(.func 199 [] [(pt 1),(pt 0)])],bI r.2])
def qX6 (κ:Out UU->Option S):Bool×Int->Option S:=fun r=>κ (.ret (.bool r.1) [bI r.2,.cells [(.func 199 [] [(pt 0),(pt 1)])]])
def qX7 (κ:Out UU->Option S):Cl->Option S:=fun r=>κ (.ret (aC r) [])
def O7 (c0:Cl) (κ:Out UU->Option S):Bool->Option S:=fun r=>κ (.ret (.bool r) [bC c0])
def DA (c0:Cl) (κ:Out UU->Option S):Int->Option S:=fun r=>κ (.ret (iI r) [bC c0])
def agV (c0:List Cl) (κ:Out UU->Option S):Bool->Option S:=fun r=>κ (.ret (.bool r) [.cells [(sC c0)]])
def cR (κ:Out UU->Option S):List Cl×Int->Option S:=fun r=>κ (.ret (.tuple [(sC r.1),(iI r.2)]) [])
def qx (κ:Out UU->Option S):Int->Option S:=fun r=>κ (.ret (iU r) [])
def lv (c0 c1:Int) (c2:Bool) (κ:Out UU->Option S):Bool->Option S:=fun r=>κ (.ret (.bool r) [bI c0,bI c1,.cells [(.bool c2)]])
def Df (κ:Out UU->Option S):Tm->Option S:=fun r=>κ (.ret (aT r) [])
def Dg (κ:Out UU->Option S):List Tm->Option S:=fun r=>κ (.ret (sT r) [])
def kA (κ:Out UU->Option S):Tm×Int->Option S:=fun r=>κ (.ret (aT r.1) [bI r.2])
def agW (κ:Out UU->Option S):Tm×Bool×Int×Int->Option S:=fun r=>κ (.ret (.tuple [(aT r.1),(.bool r.2.1),(iI r.2.2.1)]) [bI r.2.2.2])
def agX (κ:Out UU->Option S):List Cl->Option S:=fun r=>κ (.ret (GO r) [])
def agY (κ:Out UU->Option S):Int×Int->Option S:=fun r=>κ (.ret (.tuple [(iU r.1),(iI r.2)]) [])
def ag0 (κ:Out UU->Option S):Cl×Int->Option S:=fun r=>κ (.ret (.tuple [(aC r.1),(iI r.2)]) [])
def ag1 (c0 c1:Int) (κ:Out UU->Option S):List Cl×Int->Option S:=fun r=>κ (.ret (.tuple [(GO r.1),(iI r.2)]) [bI c0,bI c1])
def Dh (c0 c1:Int) (κ:Out UU->Option S):List Cl×Int->Option S:=fun r=>κ (.ret (.tuple [(sC r.1),(iI r.2)]) [bI c0,bI c1])
def ag2 (κ:Out UU->Option S):Pan Int (List Cl)->Option S:=fun r=>Pan.elim r (fun r=>κ (.ret (sC r) [])) (fun e=>κ (.panic (.iface 30 (iI e)) []))
def eH (κ:Out UU->Option S):Pan Int Tm->Option S:=fun r=>Pan.elim r (fun r=>κ (.ret (aT r) [])) (fun e=>κ (.panic (.iface 30 (iI e)) []))
def ag3 (c0 c1:Int) (c2:Tm) (κ:Out UU->Option S):Pan Int Tm->Option S:=fun r=>Pan.elim r (fun r=>κ (.ret (aT r) [bI c0,bI c1,bT c2])) (fun e=>κ (.panic (.iface 30 (iI e)) [bI c0,bI c1,bT c2]))
def Di (c0 c1:Int) (c2:Tm) (κ:Out UU->Option S):Tm×Int->Option S:=fun r=>κ (.ret (.tuple [(aT r.1),(iI r.2)]) [bI c0,bI c1,bT c2])
def kB (κ:Out UU->Option S):Tm×Int->Option S:=fun r=>κ (.ret (.tuple [(aT r.1),(iI r.2)]) [])
def OZ (κ:Out UU->Option S):Int×Int×ByteArray->Option S:=fun r=>κ (.ret (.agg [(iI r.1),(iI r.2.1),(.str r.2.2),(dS [] .nil),(jq [] .nil),(eK [] .nil)]) [])
def ag4 (κ:Out UU->Option S):Int->Option S:=fun r=>κ (.ret (.tuple []) [bI r])
def Dj (κ:Out UU->Option S):Int->Option S:=fun r=>κ (.ret (pt 0) [bI r])
def Dk (κ:Out UU->Option S):List Cl×Int->Option S:=fun r=>κ (.ret (sC r.1) [bI r.2])
def O0 (c0:Int) (c1:Tm) (c2:Int) (κ:Out UU->Option S):Pan Int Tm->Option S:=fun r=>Pan.elim r (fun r=>κ (.ret (aT r) [bI c0,bT c1,bI c2])) (fun e=>κ (.panic (.iface 30 (iI e)) [bI c0,bT c1,bI c2]))
def qy (c0:Int) (c1:Tm) (c2:Int) (κ:Out UU->Option S):Tm×Int->Option S:=fun r=>κ (.ret (.tuple [(aT r.1),(iI r.2)]) [bI c0,bT c1,bI c2])
def ag5 (c0:Int) (c1:List Cl) (κ:Out UU->Option S):Unit->Option S:=fun r=>κ (.ret (.func 148 [] [(pt 0),(pt 1),(pt 2)]) [bI c0,.cells [(sC c1)],.cells [(.func 152 [] [])]])
def ag6 (c0:Int) (c1:List Cl) (κ:Out UU->Option S):Unit->Option S:=fun r=>κ (.ret (.func 148 [] [(pt 0),(pt 1),(pt 2)]) [bI c0,.cells [(sC c1)],.cells [(.func 153 [] [])]])
def ag7 (κ:Out UU->Option S):Int×List Cl->Option S:=fun r=>κ (.ret (.agg [(.func 148 [] [(pt 0),(pt 1),(pt 2)]),(.func 148 [] [(pt 0),(pt 1),(pt 3)])]) [bI r.1,.cells [(sC r.2)],.cells [(.func 152 [] [])],.cells [(.func 153 [] [])]])
def u7 (κ:Out UU->Option S):List Cl->Option S:=fun r=>κ (.ret (sC r) [])
def ag8 (κ:Out UU->Option S):Cl×Bool->Option S:=fun r=>κ (.ret (.tuple [(aC r.1),(.bool r.2)]) [])
def ag9 (c0:Cl) (κ:Out UU->Option S):Cl×Bool->Option S:=fun r=>κ (.ret (.tuple [(aC r.1),(.bool r.2)]) [bC c0])
def Dl (c0:Cl) (κ:Out UU->Option S):List Cl->Option S:=fun r=>κ (.ret (sC r) [bC c0])
def ag_ (c0:Int) (c1:List Cl) (κ:Out UU->Option S):List Cl×Int->Option S:=fun r=>κ (.ret (.tuple [(sC r.1),(iI r.2)]) [bI c0,.cells [(sC c1)],.cells [(.func 153 [] [])]])
def yH (c0:Int) (c1:List Cl) (κ:Out UU->Option S):List Cl×Int->Option S:=fun r=>κ (.ret (.tuple [(sC r.1),(iI r.2)]) [bI c0,.cells [(sC c1)]])
def aha (c0:Int) (c1:List Cl) (κ:Out UU->Option S):List Cl×Int->Option S:=fun r=>κ (.ret (.tuple [(sC r.1),(iI r.2)]) [bI c0,.cells [(sC c1)],.cells [(.func 152 [] [])]])
def ahb (c0:Int) (c1:List Cl) (κ:Out UU->Option S):List Cl×Int->Option S:=fun r=>κ (.ret (.tuple [(sC r.1),(iI r.2)]) [bI c0,.cells [(sC c1)],.cells [(.func 152 [] [])],.cells [(.func 153 [] [])]])
def ahc (c0:Tm) (κ:Out UU->Option S):Int->Option S:=fun r=>κ (.ret (iI r) [bT c0])
def ahd (c0:Int) (κ:Out UU->Option S):Int->Option S:=fun r=>κ (.ret (iI r) [bI c0])
def Dm (c0:Int) (c1:List Cl) (κ:Out UU->Option S):Tm×Int->Option S:=fun r=>κ (.ret (.tuple [(aT r.1),(iI r.2)]) [bI c0,.cells [(sC c1)],.cells [(.func 152 [] [])],.cells [(.func 153 [] [])]])
def Dp (c0:Int) (c1:List Cl) (c4:Int) (κ:Out UU->Option S):List Tm×Int->Option S:=fun r=>κ (.ret (.tuple [(sT r.1),(iI r.2)]) [bI c0,.cells [(sC c1)],.cells [(.func 152 [] [])],.cells [(.func 153 [] [])],bI c4])
def Dq (c0:Int) (c1:List Cl) (c4:Tm) (κ:Out UU->Option S):List Tm×Int->Option S:=fun r=>κ (.ret (.tuple [(sT r.1),(iI r.2)]) [bI c0,.cells [(sC c1)],.cells [(.func 152 [] [])],.cells [(.func 153 [] [])],bT c4])
def ahe (κ:Out UU->Option S):Int->Option S:=fun r=>κ (.ret (.agg [(.func 158 [] [(pt 0)]),(.func 158 [] [(pt 0)])]) [bI r])
def yI (c0:Int) (κ:Out UU->Option S):List Cl×Int->Option S:=fun r=>κ (.ret (.tuple [(sC r.1),(iI r.2)]) [bI c0])
def Dr (c0:Int) (κ:Out UU->Option S):Tm×Int->Option S:=fun r=>κ (.ret (.tuple [(aT r.1),(iI r.2)]) [bI c0])
def Ds (c0 c1:Int) (κ:Out UU->Option S):List Tm×Int->Option S:=fun r=>κ (.ret (.tuple [(sT r.1),(iI r.2)]) [bI c0,bI c1])
def Dt (c0:Int) (c1:Tm) (κ:Out UU->Option S):List Tm×Int->Option S:=fun r=>κ (.ret (.tuple [(sT r.1),(iI r.2)]) [bI c0,bT c1])
def ahf (κ:Out UU->Option S):Tm×Int×Int->Option S:=fun r=>κ (.ret (.tuple [(aT r.1),(iI r.2.1)]) [bI r.2.2])
def eY (κ:Out UU->Option S):Bool×Int->Option S:=fun r=>κ (.ret (.bool r.1) [bI r.2])
def O1 (κ:Out UU->Option S):Int×Int×ByteArray×List Cl×List Tm->Option S:=fun r=>κ (.ret (.agg [(iI r.1),(iI r.2.1),(.str r.2.2.1),(sC r.2.2.2.1),(sT r.2.2.2.2),(eK [] .nil)]) [])
def O2 (bS:Int) (c0_1:List Cl) (aG aH:Int) (aI:ByteArray) (aJ:List Cl) (aK:List Tm) (aL:List (Br Tm)) (κ:Out UU->Option S):Int×Int×ByteArray×List Cl×List Tm->Option S:=fun r=>κ (.ret (.agg [(iI r.1),(iI r.2.1),(.str r.2.2.1),(sC r.2.2.2.1),(sT r.2.2.2.2),(eK [] .nil)]) [.cells [(iI bS),(sC c0_1),(iI aG),(iI aH),(.str aI),(sC aJ),(sT aK),(sB aL)]])
def HZ (c0_1:List Cl) (aG aH:Int) (aI:ByteArray) (aJ:List Cl) (aK:List Tm) (aL:List (Br Tm)) (κ:Out UU->Option S):Int×Int×ByteArray×List Tm×Int->Option S:=fun r=>κ (.ret (.agg [(iI r.1),(iI r.2.1),(.str r.2.2.1),(dS [] .nil),(sT r.2.2.2.1),(eK [] .nil)]) [.cells [(iI r.2.2.2.2),(sC c0_1),(iI aG),(iI aH),(.str aI),(sC aJ),(sT aK),(sB aL)]])
def ahh (c0_1:List Cl) (aG aH:Int) (aI:ByteArray) (aJ:List Cl) (aK:List Tm) (aL:List (Br Tm)) (κ:Out UU->Option S):Tm×Int->Option S:=fun r=>κ (.ret (aT r.1) [.cells [(iI r.2),(sC c0_1),(iI aG),(iI aH),(.str aI),(sC aJ),(sT aK),(sB aL)]])
def ahi (c1 c2:Tm) (cE:List Cl) (ct cu:Int) (cv:ByteArray) (cx:List Cl) (cz:List Tm) (cA:List (Br Tm)) (κ:Out UU->Option S):Int×Int×ByteArray×List Cl×List Tm×Int->Option S:=fun r=>κ (.ret (.agg [(iI r.1),(iI r.2.1),(.str r.2.2.1),(sC r.2.2.2.1),(sT r.2.2.2.2.1),(eK [] .nil)]) [.cells [(pt 3)],bT c1,bT c2,.cells [(iI r.2.2.2.2.2),(sC cE),(iI ct),(iI cu),(.str cv),(sC cx),(sT cz),(sB cA)]])
def O3 (κ:Out UU->Option S):(Br Tm)->Option S:=fun r=>κ (.ret (aB r) [])
def ahj (κ:Out UU->Option S):Int×Int×ByteArray×List Tm×List (Br Tm)->Option S:=fun r=>κ (.ret (.agg [(iI r.1),(iI r.2.1),(.str r.2.2.1),(dS [] .nil),(jq r.2.2.2.1 .full),(sB r.2.2.2.2)]) [])
def O4 (κ:Out UU->Option S):Int×Int×ByteArray×List Tm×List (Br Tm)->Option S:=fun r=>κ (.ret (.agg [(iI r.1),(iI r.2.1),(.str r.2.2.1),(dS [] .nil),(sT r.2.2.2.1),(sB r.2.2.2.2)]) [])
def pe (κ:Out UU->Option S):Tm×Bool×Int->Option S:=fun r=>κ (.ret (.tuple [(aT r.1),(.bool r.2.1),(iI r.2.2)]) [])
def Du (κ:Out UU->Option S):List (Br Tm)->Option S:=fun r=>κ (.ret (CA r) [])
def ahk (κ:Out UU->Option S):List (Br Tm)->Option S:=fun r=>κ (.ret (sB r) [])
def ahl (c0:Int) (κ:Out UU->Option S):Cl×Bool->Option S:=fun r=>κ (.ret (.tuple [(aC r.1),(.bool r.2)]) [bI c0])
def Dv (c0:Int) (κ:Out UU->Option S):List Cl->Option S:=fun r=>κ (.ret (sC r) [bI c0])
def O5 (c1:Tm) (gS:List Cl) (gZ g5:Int) (g6:ByteArray) (g7:List Cl) (g8:List Tm) (g9 g_:List (Br Tm)) (gy gn:Int) (gq:ByteArray) (gr:List Cl) (gu:List Tm) (gx:List (Br Tm)) (gU gV:Int) (gW:ByteArray) (gX:List Cl) (gY:List Tm) (g4:List (Br Tm)) (κ:Out UU->Option S):Tm×Int->Option S:=fun r=>κ (.ret (aT r.1) [.cells [(pt 2)],bT c1,.cells [(iI r.2),(sC gS),(iI gZ),(iI g5),(.str g6),(sC g7),(sT g8),(sB g9),(sB g_),(iI gy),(iI gn),(.str gq),(sC gr),(sT gu),(sB gx),(iI gU),(iI gV),(.str gW),(sC gX),(sT gY),(sB g4)]])
def ahn (κ:Out UU->Option S):Tm×Int->Option S:=fun r=>κ (.ret (aT r.1) [.cells [.int .i64 2,(iI r.2)]])
def aho (c0_1:List Cl) (aG aH:Int) (aI:ByteArray) (aJ:List Cl) (aK:List Tm) (aL dV:List (Br Tm)) (cL cF:Int) (cG:ByteArray) (cH:List Cl) (cJ:List Tm) (cK:List (Br Tm)) (b9 b_:Int) (ca:ByteArray) (ce:List Cl) (ci:List Tm) (cj:List (Br Tm)) (c2:Tm) (κ:Out UU->Option S):List (Br Tm)×Int->Option S:=fun r=>κ (.ret (eK r.1 .full) [.cells [(iI r.2),(sC c0_1),(iI aG),(iI aH),(.str aI),(sC aJ),(sT aK),(sB aL),(sB dV),(iI cL),(iI cF),(.str cG),(sC cH),(sT cJ),(sB cK),(iI b9),(iI b_),(.str ca),(sC ce),(sT ci),(sB cj)],.cells [(pt 0)],bT c2])
def ahp (ba:List Cl) (bm bn:Int) (bo:ByteArray) (bp:List Cl) (bq:List Tm) (bw bK:List (Br Tm)) (bz be:Int) (bg:ByteArray) (bh:List Cl) (bj:List Tm) (bk:List (Br Tm)) (bA bB:Int) (bD:ByteArray) (bG:List Cl) (bH:List Tm) (bJ:List (Br Tm)) (κ:Out UU->Option S):(Br Tm)×Int->Option S:=fun r=>κ (.ret (aB r.1) [.cells [(pt 1)],.cells [(iI r.2),(sC ba),(iI bm),(iI bn),(.str bo),(sC bp),(sT bq),(sB bw),(sB bK),(iI bz),(iI be),(.str bg),(sC bh),(sT bj),(sB bk),(iI bA),(iI bB),(.str bD),(sC bG),(sT bH),(sB bJ)]])
def Dw (ba:List Cl) (bm bn:Int) (bo:ByteArray) (bp:List Cl) (bq:List Tm) (bw bK:List (Br Tm)) (bz be:Int) (bg:ByteArray) (bh:List Cl) (bj:List Tm) (bk:List (Br Tm)) (bA bB:Int) (bD:ByteArray) (bG:List Cl) (bH:List Tm) (bJ:List (Br Tm)) (κ:Out UU->Option S):List (Br Tm)×Int->Option S:=fun r=>κ (.ret (CA r.1) [.cells [(pt 1)],.cells [(iI r.2),(sC ba),(iI bm),(iI bn),(.str bo),(sC bp),(sT bq),(sB bw),(sB bK),(iI bz),(iI be),(.str bg),(sC bh),(sT bj),(sB bk),(iI bA),(iI bB),(.str bD),(sC bG),(sT bH),(sB bJ)]])
def Dx (c0_1:List Cl) (aG aH:Int) (aI:ByteArray) (aJ:List Cl) (aK:List Tm) (aL:List (Br Tm)) (b9 b_:Int) (ca:ByteArray) (ce:List Cl) (ci:List Tm) (cj:List (Br Tm)) (κ:Out UU->Option S):Int×List (Br Tm)×Int×Int×ByteArray×List Cl×List Tm×List (Br Tm)->Option S:=fun r=>κ (.ret (.tuple []) [.cells [(iI r.1),(sC c0_1),(iI aG),(iI aH),(.str aI),(sC aJ),(sT aK),(sB aL),(sB r.2.1),(iI r.2.2.1),(iI r.2.2.2.1),(.str r.2.2.2.2.1),(sC r.2.2.2.2.2.1),(sT r.2.2.2.2.2.2.1),(sB r.2.2.2.2.2.2.2),(iI b9),(iI b_),(.str ca),(sC ce),(sT ci),(sB cj)]])
def ahq (κ:Out UU->Option S):Int×Int×ByteArray×List Tm×Int->Option S:=fun r=>κ (.ret (.agg [(iI r.1),(iI r.2.1),(.str r.2.2.1),(dS [] .nil),(sT r.2.2.2.1),(eK [] .nil)]) [bI r.2.2.2.2])
def ahr (c1:Tm) (gS:List Cl) (gZ g5:Int) (g6:ByteArray) (g7:List Cl) (g8:List Tm) (g9 g_:List (Br Tm)) (gy gn:Int) (gq:ByteArray) (gr:List Cl) (gu:List Tm) (gx:List (Br Tm)) (gU gV:Int) (gW:ByteArray) (gX:List Cl) (gY:List Tm) (g4:List (Br Tm)) (κ:Out UU->Option S):Int×Int×ByteArray×List Cl×List Tm×Int->Option S:=fun r=>κ (.ret (.agg [(iI r.1),(iI r.2.1),(.str r.2.2.1),(sC r.2.2.2.1),(sT r.2.2.2.2.1),(eK [] .nil)]) [.cells [(pt 2)],bT c1,.cells [(iI r.2.2.2.2.2),(sC gS),(iI gZ),(iI g5),(.str g6),(sC g7),(sT g8),(sB g9),(sB g_),(iI gy),(iI gn),(.str gq),(sC gr),(sT gu),(sB gx),(iI gU),(iI gV),(.str gW),(sC gX),(sT gY),(sB g4)]])
def O6 (c2:Tm) (cE:List Cl) (ct cu:Int) (cv:ByteArray) (cx:List Cl) (cz:List Tm) (cA dj:List (Br Tm)) (dk c6:Int) (c7:ByteArray) (c8:List Cl) (c_:List Tm) (da:List (Br Tm)) (dc de:Int) (df:ByteArray) (dg:List Cl) (dh:List Tm) (di:List (Br Tm)) (κ:Out UU->Option S):Int×Int×ByteArray×List Cl×List Tm×Int->Option S:=fun r=>κ (.ret (.agg [(iI r.1),(iI r.2.1),(.str r.2.2.1),(sC r.2.2.2.1),(sT r.2.2.2.2.1),(eK [] .nil)]) [.cells [(.func 135 [] [(pt 1),(pt 2)])],.cells [(pt 3)],bT c2,.cells [(iI r.2.2.2.2.2),(sC cE),(iI ct),(iI cu),(.str cv),(sC cx),(sT cz),(sB cA),(sB dj),(iI dk),(iI c6),(.str c7),(sC c8),(sT c_),(sB da),(iI dc),(iI de),(.str df),(sC dg),(sT dh),(sB di)]])
def ahs (κ:Out UU->Option S):Int×Int×ByteArray×List Cl×List Tm×Int->Option S:=fun r=>κ (.ret (.agg [(iI r.1),(iI r.2.1),(.str r.2.2.1),(sC r.2.2.2.1),(sT r.2.2.2.2.1),(eK [] .nil)]) [.cells [.int .i64 3,(iI r.2.2.2.2.2)]])
def aht (c0_1:List Cl) (aG aH:Int) (aI:ByteArray) (aJ:List Cl) (aK:List Tm) (aL dV:List (Br Tm)) (cL cF:Int) (cG:ByteArray) (cH:List Cl) (cJ:List Tm) (cK:List (Br Tm)) (b9 b_:Int) (ca:ByteArray) (ce:List Cl) (ci:List Tm) (cj:List (Br Tm)) (c3:Tm) (κ:Out UU->Option S):List (Br Tm)×Int->Option S:=fun r=>κ (.ret (eK r.1 .full) [.cells [(iI r.2),(sC c0_1),(iI aG),(iI aH),(.str aI),(sC aJ),(sT aK),(sB aL),(sB dV),(iI cL),(iI cF),(.str cG),(sC cH),(sT cJ),(sB cK),(iI b9),(iI b_),(.str ca),(sC ce),(sT ci),(sB cj)],.cells [(.func 135 [] [(pt 2),(pt 3)])],.cells [(pt 0)],bT c3])
def ahu (c2:Tm) (cE:List Cl) (ct cu:Int) (cv:ByteArray) (cx:List Cl) (cz:List Tm) (cA dj:List (Br Tm)) (dk c6:Int) (c7:ByteArray) (c8:List Cl) (c_:List Tm) (da:List (Br Tm)) (dc de:Int) (df:ByteArray) (dg:List Cl) (dh:List Tm) (di:List (Br Tm)) (κ:Out UU->Option S):(Br Tm)×Int->Option S:=fun r=>κ (.ret (aB r.1) [.cells [(.func 135 [] [(pt 1),(pt 2)])],.cells [(pt 3)],bT c2,.cells [(iI r.2),(sC cE),(iI ct),(iI cu),(.str cv),(sC cx),(sT cz),(sB cA),(sB dj),(iI dk),(iI c6),(.str c7),(sC c8),(sT c_),(sB da),(iI dc),(iI de),(.str df),(sC dg),(sT dh),(sB di)]])
def Dy (c2:Tm) (cE:List Cl) (ct cu:Int) (cv:ByteArray) (cx:List Cl) (cz:List Tm) (cA dj:List (Br Tm)) (dk c6:Int) (c7:ByteArray) (c8:List Cl) (c_:List Tm) (da:List (Br Tm)) (dc de:Int) (df:ByteArray) (dg:List Cl) (dh:List Tm) (di:List (Br Tm)) (κ:Out UU->Option S):List (Br Tm)×Int->Option S:=fun r=>κ (.ret (CA r.1) [.cells [(.func 135 [] [(pt 1),(pt 2)])],.cells [(pt 3)],bT c2,.cells [(iI r.2),(sC cE),(iI ct),(iI cu),(.str cv),(sC cx),(sT cz),(sB cA),(sB dj),(iI dk),(iI c6),(.str c7),(sC c8),(sT c_),(sB da),(iI dc),(iI de),(.str df),(sC dg),(sT dh),(sB di)]])
def ahv (c0_1:List Cl) (aG aH:Int) (aI:ByteArray) (aJ:List Cl) (aK:List Tm) (aL dV:List (Br Tm)) (cL cF:Int) (cG:ByteArray) (cH:List Cl) (cJ:List Tm) (cK:List (Br Tm)) (b9 b_:Int) (ca:ByteArray) (ce:List Cl) (ci:List Tm) (cj:List (Br Tm)) (κ:Out UU->Option S):Int×Int×ByteArray×List Tm×List (Br Tm)×Int->Option S:=fun r=>κ (.ret (.agg [(iI r.1),(iI r.2.1),(.str r.2.2.1),(dS [] .nil),(sT r.2.2.2.1),(sB r.2.2.2.2.1)]) [.cells [(iI r.2.2.2.2.2),(sC c0_1),(iI aG),(iI aH),(.str aI),(sC aJ),(sT aK),(sB aL),(sB dV),(iI cL),(iI cF),(.str cG),(sC cH),(sT cJ),(sB cK),(iI b9),(iI b_),(.str ca),(sC ce),(sT ci),(sB cj)]])
def ahw (ba:List Cl) (bm bn:Int) (bo:ByteArray) (bp:List Cl) (bq:List Tm) (bw bK:List (Br Tm)) (bz be:Int) (bg:ByteArray) (bh:List Cl) (bj:List Tm) (bk:List (Br Tm)) (bA bB:Int) (bD:ByteArray) (bG:List Cl) (bH:List Tm) (bJ:List (Br Tm)) (κ:Out UU->Option S):Int×Int×ByteArray×List Tm×List (Br Tm)×Int->Option S:=fun r=>κ (.ret (.agg [(iI r.1),(iI r.2.1),(.str r.2.2.1),(dS [] .nil),(sT r.2.2.2.1),(sB r.2.2.2.2.1)]) [.cells [(pt 1)],.cells [(iI r.2.2.2.2.2),(sC ba),(iI bm),(iI bn),(.str bo),(sC bp),(sT bq),(sB bw),(sB bK),(iI bz),(iI be),(.str bg),(sC bh),(sT bj),(sB bk),(iI bA),(iI bB),(.str bD),(sC bG),(sT bH),(sB bJ)]])
def Dz (ba:List Cl) (bm bn:Int) (bo:ByteArray) (bp:List Cl) (bq:List Tm) (bw bK:List (Br Tm)) (bz be:Int) (bg:ByteArray) (bh:List Cl) (bj:List Tm) (bk:List (Br Tm)) (bA bB:Int) (bD:ByteArray) (bG:List Cl) (bH:List Tm) (bJ:List (Br Tm)) (κ:Out UU->Option S):List Tm×Int->Option S:=fun r=>κ (.ret (Mc r.1) [.cells [(pt 1)],.cells [(iI r.2),(sC ba),(iI bm),(iI bn),(.str bo),(sC bp),(sT bq),(sB bw),(sB bK),(iI bz),(iI be),(.str bg),(sC bh),(sT bj),(sB bk),(iI bA),(iI bB),(.str bD),(sC bG),(sT bH),(sB bJ)]])
def O8 (ba:List Cl) (bm bn:Int) (bo:ByteArray) (bp:List Cl) (bq:List Tm) (bw bK:List (Br Tm)) (bz be:Int) (bg:ByteArray) (bh:List Cl) (bj:List Tm) (bk:List (Br Tm)) (bA bB:Int) (bD:ByteArray) (bG:List Cl) (bH:List Tm) (bJ:List (Br Tm)) (κ:Out UU->Option S):Tm×Int->Option S:=fun r=>κ (.ret (aT r.1) [.cells [(pt 1)],.cells [(iI r.2),(sC ba),(iI bm),(iI bn),(.str bo),(sC bp),(sT bq),(sB bw),(sB bK),(iI bz),(iI be),(.str bg),(sC bh),(sT bj),(sB bk),(iI bA),(iI bB),(.str bD),(sC bG),(sT bH),(sB bJ)]])
def ahx (κ:Out UU->Option S):Tm×Int->Option S:=fun r=>κ (.ret (aT r.1) [.cells [.int .i64 1,(iI r.2)]])
def ahy (c0_1:List Cl) (aG aH:Int) (aI:ByteArray) (aJ:List Cl) (aK:List Tm) (aL dV:List (Br Tm)) (cL cF:Int) (cG:ByteArray) (cH:List Cl) (cJ:List Tm) (cK:List (Br Tm)) (b9 b_:Int) (ca:ByteArray) (ce:List Cl) (ci:List Tm) (cj:List (Br Tm)) (κ:Out UU->Option S):List (Br Tm)×Int->Option S:=fun r=>κ (.ret (eK r.1 .full) [.cells [(iI r.2),(sC c0_1),(iI aG),(iI aH),(.str aI),(sC aJ),(sT aK),(sB aL),(sB dV),(iI cL),(iI cF),(.str cG),(sC cH),(sT cJ),(sB cK),(iI b9),(iI b_),(.str ca),(sC ce),(sT ci),(sB cj)],.cells [(pt 0)]])
end
end Go.Proofs.YtgajalidbabccaaGreatDoor
namespace Go.Proofs.YtgajalidbabccaaGreatDoor
open Go PI _root_.Go.Proofs.Tryz
set_option maxRecDepth 100000
noncomputable section
variable {S:Type} {o:Obj} (k:Nat)
def H0 (hd:mq S):Rw S:=ai CJ xn fun t most Z=>hd t most (bY Z)
def qX (hd:mq S) (k:Nat):Fx S:=fp 119 [(9,H0 hd)] [(5,dw [1,2,5,6] [(2,6)],a8 6 23),(9,dw [1,2,5,7] [(2,6)],a8 7 47),(15,dw [1,2,5,7,8] [(2,6)],a8 15 14639)] k f9 0
def Hs (t:Tm) (most:Int) (v5 i6:Int):St UU:=⟨[(1,(iI most)),(2,(pt 2)),(5,(iI v5)),(6,(iI i6))],[(2,bT t)],[],[]⟩
def ya (t:Tm) (most:Int) (v5' i7:Int):St UU:=⟨[(1,(iI most)),(2,(pt 2)),(5,(iI v5')),(7,(iI i7))],[(2,bT t)],[],[]⟩
def Nh (t:Tm) (most i7:Int) (v5'' v8:Int):St UU:=⟨[(1,(iI most)),(2,(pt 2)),(5,(iI v5'')),(7,(iI i7)),(8,(iI v8))],[(2,bT t)],[],[]⟩
section
variable (hd:mq S) (k:Nat) (t:Tm) (most:Int) (Z:Out UU->Option S)
theorem Ws (i7 Z1): ∀n v5'' v8,(qX hd k).lp Z 15 [Z1] n (Nh t most i7 v5'' v8)=oU hd k (bY Z) (fun v5' i7=>Z1 (ya t most v5' i7)) t most i7 n v5'' v8:=dp (Aw hd k (bY Z) t most i7 (fun v5' i7=>Z1 (ya t most v5' i7)))
theorem Wr: ∀n v5' i7,(qX hd k).lp Z 9 [] n (ya t most v5' i7)=nL hd k (bY Z) t most n v5' i7:=dp (fun own=>wk hd k (bY Z) t most (fun i7 v5'' v8=>oU hd k (bY Z) own t most i7 k v5'' v8) own) rfl (fun _=>rfl) fun r v5' i7=>aq (b:=wk hd k (bY Z) t most (fun i7 v5'' v8=>(qX hd k).lp Z 15 [r] k (Nh t most i7 v5'' v8)) (fun v5' i7=>r (ya t most v5' i7)) v5' i7) (by kernel_rfl) (by simp only [Ws])
theorem Wq: ∀n v5 i6,(qX hd k).lp Z 5 [] n (Hs t most v5 i6)=sA hd k (bY Z) t most n v5 i6:=dp (fun own=>wj hd k (bY Z) t most (fun v5' i7=>nL hd k (bY Z) t most k v5' i7) own) rfl (fun _=>rfl) fun r v5 i6=>aq (b:=wj hd k (bY Z) t most (fun v5' i7=>(qX hd k).lp Z 9 [] k (ya t most v5' i7)) (fun v5 i6=>r (Hs t most v5 i6)) v5 i6) (by kernel_rfl) (by simp only [Wr])
end
theorem Mm (o:Obj) (ho:aj o): ∀k:Nat,Tl o 9 (H0 (lZ k:mq S))
 |0=>kI fun t most Z x h=>by cases h
 |k+1=>am (qX (lZ k) k) ⟨Mm o ho k,trivial⟩ func9 fun t most Z x h=>aq (b:=JI (lZ k) k (bY Z) (fun v5 i6=>(qX (lZ k) k).lp Z 5 [] k (Hs t most v5 i6)) t most) (by kernel_rfl) (aq (by simp only [Wq];rfl) h)
def O9:Rw S:=ai G3 xn fun kind kids Z=>aa k (k_ k kind kids) (De Z)
def TQ:Fx S:=fx 8 (fun _=>[]) (fun _=>false) [] [] k f34 true [] 0
theorem Zn (ho:aj o):Tl o 34 (O9 k:Rw S):=am (TQ k) trivial func34 fun kind kids Z x h=>ay h
def mV:Rw S:=ai kX2 xn fun kind kid Z=>aa k (la k kind kid) (qX2 Z)
def U8:Fx S:=fp 26 [] [] k f49 0
theorem nF (ho:aj o):Tl o 49 (mV k:Rw S):=am (U8 k) trivial func49 fun kind kid Z x h=>ay h
def yQ (hd:gL S):Rw S:=ai CJ xn fun t left Z=>hd t left (cW Z)
def Qw (hd:gL S) (k:Nat):Rw S:=ai CO dN fun a_k p p' c0 Z=>aa k (xk hd k a_k p p' c0) (jM c0 Z)
def Vo (hd:gL S) (k:Nat):Fx S:=fp 12 [(113,yQ hd)] [] k f198 1
theorem eX4 (o:Obj) (ho:aj o) (hd:gL S) (Hd:Tl o 113 (yQ hd)) (k:Nat):Tl o 198 (Qw hd k:Rw S):=am (Vo hd k) ⟨Hd,trivial⟩ func198 fun a_k p p' c0 Z x h=>ay h
def QD (hd:gL S) (k:Nat):Rw S:=ai kX5 dN fun t c0 Z=>aa k (Gj hd k t c0) (jM c0 Z)
def rf (hd:gL S) (k:Nat):Fx S:=fp 60 [(49,mV k),(198,Qw hd k)] [(2,dw [1,2,15,16,17] [(2,6),(1000000,1)],a8 4 5),(12,dw [1,9,40,41,42] [(1000000,1)],a8 7 47),(15,dw [1,9,40,41,42,47,48,49] [(1000000,1)],a8 15 13103)] k f116 1
def HB (c0:Int) (t:Tm) (v17:Int):St UU:=⟨[(1,(.func 198 [] [(pt 1000000)])),(2,(pt 2)),(15,(sT t.kids)),(16,(iI t.kids.length)),(17,(iI v17))],[(2,bT t),(1000000,bI c0)],[],[]⟩
def yj (c0:Int) (t:Tm) (v42 more9:Int):St UU:=⟨[(1,(.func 198 [] [(pt 1000000)])),(9,(iI more9)),(40,(sB t.sys)),(41,(iI t.sys.length)),(42,(iI v42))],[(1000000,bI c0)],[],[]⟩
def N4 (c0:Int) (t:Tm) (v42:Int) (x4:(Br Tm)) (more9:Int) (v49:Int):St UU:=⟨[(1,(.func 198 [] [(pt 1000000)])),(9,(iI more9)),(40,(sB t.sys)),(41,(iI t.sys.length)),(42,(iI v42)),(47,(sT x4.kids)),(48,(iI x4.kids.length)),(49,(iI v49))],[(1000000,bI c0)],[],[]⟩
section
variable (hd:gL S) (k:Nat) (t:Tm) (c0:Int) (Z:Out UU->Option S)
theorem Xw (v42 x4 more9 Z1): ∀n v49,(rf hd k).lp Z 15 [Z1] n (N4 c0 t v42 x4 more9 v49)=sH hd k (jM c0 Z) (fun v42 more9=>Z1 (yj c0 t v42 more9)) c0 t v42 x4 more9 n v49:=jl (AH hd k (jM c0 Z) c0 t v42 x4 more9 (fun v42 more9=>Z1 (yj c0 t v42 more9)))
theorem Xv: ∀n v42 more9,(rf hd k).lp Z 12 [] n (yj c0 t v42 more9)=nM hd k (jM c0 Z) c0 t n v42 more9:=dp (fun own=>wy hd k (jM c0 Z) c0 t (fun v42 x4 more9 v49=>sH hd k (jM c0 Z) own c0 t v42 x4 more9 k v49) own) rfl (fun _=>rfl) fun r v42 more9=>aq (b:=wy hd k (jM c0 Z) c0 t (fun v42 x4 more9 v49=>(rf hd k).lp Z 15 [r] k (N4 c0 t v42 x4 more9 v49)) (fun v42 more9=>r (yj c0 t v42 more9)) v42 more9) (by kernel_rfl) (by simp only [Xw])
theorem Xu: ∀n v17,(rf hd k).lp Z 2 [] n (HB c0 t v17)=uM hd k (jM c0 Z) c0 t n v17:=jl (fun own=>wx hd k (jM c0 Z) c0 t (fun v42 more9=>nM hd k (jM c0 Z) c0 t k v42 more9) own) rfl (fun _=>rfl) fun r v17=>aq (b:=wx hd k (jM c0 Z) c0 t (fun v42 more9=>(rf hd k).lp Z 12 [] k (yj c0 t v42 more9)) (fun v17=>r (HB c0 t v17)) v17) (by kernel_rfl) (by simp only [Xv])
end
theorem eX5 (o:Obj) (ho:aj o) (hd:gL S) (Hd:Tl o 113 (yQ hd)) (k:Nat):Tl o 116 (QD hd k:Rw S):=am (rf hd k) ⟨nF k ho,eX4 o ho hd Hd k,trivial⟩ func116 fun t c0 Z x h=>aq (b:=JS hd k (jM c0 Z) (fun v17=>(rf hd k).lp Z 2 [] k (HB c0 t v17)) t c0) (by kernel_rfl) (aq (by simp only [Xu];rfl) (dt h))
def Vf (hd:gL S) (k:Nat):Fx S:=fp 12 [(116,QD hd k)] [] k f113 0
theorem Ms (o:Obj) (ho:aj o): ∀k:Nat,Tl o 113 (yQ (nz k:gL S))
 |0=>kI fun t left Z x h=>by cases h
 |k+1=>am (Vf (nz k) k) ⟨eX5 o ho (nz k) (Ms o ho k) k,trivial⟩ func113 fun t left Z x h=>aq (by kernel_rfl) h
def DM (hd:iq S):Rw S:=ai kX6 TL fun t c1 Z=>hd t c1 (lw Z)
def Io (hd:iq S) (k:Nat):Rw S:=ai MT xX9 fun t c0 Z=>aa k (tT hd k t c0) (qX6 Z)
def VN (hd:iq S) (k:Nat):Fx S:=fp 14 [(116,DM hd)] [] k f199 2
theorem LI (o:Obj) (ho:aj o) (hd:iq S) (Hd:Tl o 116 (DM hd)) (k:Nat):Tl o 199 (Io hd k:Rw S):=am (VN hd k) ⟨Hd,trivial⟩ func199 fun t c0 Z x h=>ay h
def QV (hd:iq S) (k:Nat):Rw S:=ai CO TL fun a_k p p' c1 Z=>aa k (xm hd k a_k p p' c1) (lw Z)
def V1 (hd:iq S) (k:Nat):Fx S:=fp 11 [(199,Io hd k)] [] k f200 2
theorem eX8 (o:Obj) (ho:aj o) (hd:iq S) (Hd:Tl o 116 (DM hd)) (k:Nat):Tl o 200 (QV hd k:Rw S):=am (V1 hd k) ⟨LI o ho hd Hd k,trivial⟩ func200 fun a_k p p' c1 Z x h=>ay h
def ri (hd:iq S) (k:Nat):Fx S:=fp 60 [(49,mV k),(200,QV hd k)] [(2,dw [1,2,15,16,17] [(2,6),(1000000,1),(1000001,1)],a8 4 5),(12,dw [1,9,40,41,42] [(1000000,1),(1000001,1)],a8 7 47),(15,dw [1,9,40,41,42,47,48,49] [(1000000,1),(1000001,1)],a8 15 13103)] k f116 2
def HC (t:Tm) (dl v17:Int):St UU:=⟨[(1,(.func 200 [] [(pt 1000000)])),(2,(pt 2)),(15,(sT t.kids)),(16,(iI t.kids.length)),(17,(iI v17))],[(2,bT t),(1000000,.cells [(.func 199 [] [(pt 1000001),(pt 1000000)])]),(1000001,bI dl)],[],[]⟩
def yk (t:Tm) (e1_0' v42 more9:Int):St UU:=⟨[(1,(.func 200 [] [(pt 1000000)])),(9,(iI more9)),(40,(sB t.sys)),(41,(iI t.sys.length)),(42,(iI v42))],[(1000000,.cells [(.func 199 [] [(pt 1000001),(pt 1000000)])]),(1000001,bI e1_0')],[],[]⟩
def N7 (t:Tm) (v42:Int) (x4:(Br Tm)) (more9:Int) (e1_0'' v49:Int):St UU:=⟨[(1,(.func 200 [] [(pt 1000000)])),(9,(iI more9)),(40,(sB t.sys)),(41,(iI t.sys.length)),(42,(iI v42)),(47,(sT x4.kids)),(48,(iI x4.kids.length)),(49,(iI v49))],[(1000000,.cells [(.func 199 [] [(pt 1000001),(pt 1000000)])]),(1000001,bI e1_0'')],[],[]⟩
section
variable (hd:iq S) (k:Nat) (t:Tm) (c1:Int) (Z:Out UU->Option S)
theorem XB (v42 x4 more9 Z1): ∀n e1_0'' v49,(ri hd k).lp Z 15 [Z1] n (N7 t v42 x4 more9 e1_0'' v49)=oV hd k (lw Z) (fun e1_0' v42 more9=>Z1 (yk t e1_0' v42 more9)) t v42 x4 more9 n e1_0'' v49:=dp (AF hd k (lw Z) t v42 x4 more9 (fun e1_0' v42 more9=>Z1 (yk t e1_0' v42 more9)))
theorem XA: ∀n e1_0' v42 more9,(ri hd k).lp Z 12 [] n (yk t e1_0' v42 more9)=mH hd k (lw Z) t n e1_0' v42 more9:=lm (fun own=>wm hd k (lw Z) t (fun v42 x4 more9 e1_0'' v49=>oV hd k (lw Z) own t v42 x4 more9 k e1_0'' v49) own) rfl (fun _=>rfl) fun r e1_0' v42 more9=>aq (b:=wm hd k (lw Z) t (fun v42 x4 more9 e1_0'' v49=>(ri hd k).lp Z 15 [r] k (N7 t v42 x4 more9 e1_0'' v49)) (fun e1_0' v42 more9=>r (yk t e1_0' v42 more9)) e1_0' v42 more9) (by kernel_rfl) (by simp only [XB])
theorem Xz: ∀n dl v17,(ri hd k).lp Z 2 [] n (HC t dl v17)=sD hd k (lw Z) t n dl v17:=dp (fun own=>wl hd k (lw Z) t (fun e1_0' v42 more9=>mH hd k (lw Z) t k e1_0' v42 more9) own) rfl (fun _=>rfl) fun r dl v17=>aq (b:=wl hd k (lw Z) t (fun e1_0' v42 more9=>(ri hd k).lp Z 12 [] k (yk t e1_0' v42 more9)) (fun dl v17=>r (HC t dl v17)) dl v17) (by kernel_rfl) (by simp only [XA])
end
theorem Mu (o:Obj) (ho:aj o): ∀k:Nat,Tl o 116 (DM (kj k:iq S))
 |0=>kI fun t c1 Z x h=>by cases h
 |k+1=>am (ri (kj k) k) ⟨nF k ho,eX8 o ho (kj k) (Mu o ho k) k,trivial⟩ func116 fun t c1 Z x h=>aq (b:=JQ (kj k) k (lw Z) (fun dl v17=>(ri (kj k) k).lp Z 2 [] k (HC t dl v17)) t c1) (by kernel_rfl) (aq (by simp only [Xz];rfl) h)
def Q3:Rw S:=ai CJ xn fun t most Z=>aa k (B3 k t most) (cW Z)
def V7:Fx S:=fp 10 [(199,Io (kj k) k)] [] k f114 0
theorem eX9 (ho:aj o):Tl o 114 (Q3 k:Rw S):=am (V7 k) ⟨LI o ho (kj k) (Mu o ho k) k,trivial⟩ func114 fun t most Z x h=>ay h
def H1:Rw S:=ai ko xn fun t Z=>aa k (xl k t) (bY Z)
def TR:Fx S:=fp 11 [(113,yQ (nz k)),(114,Q3 k)] [] k f50 0
theorem Ll (ho:aj o):Tl o 50 (H1 k:Rw S):=am (TR k) ⟨Ms o ho k,eX9 k ho,trivial⟩ func50 fun t Z x h=>ay h
def Ph:Rw S:=ai nK xn fun kind Z=>aa k (BZ k kind) (bY Z)
def TZ:Fx S:=fp 38 [] [] k f201 0
theorem Zv (ho:aj o):Tl o 201 (Ph k:Rw S):=am (TZ k) trivial func201 fun kind Z x h=>ay h
def Pl:Rw S:=ai nK xn fun kind Z=>aa k (pR k kind) (bY Z)
def T6:Fx S:=fp 10 [] [] k f202 0
theorem Zz (ho:aj o):Tl o 202 (Pl k:Rw S):=am (T6 k) trivial func202 fun kind Z x h=>ay h
def Pu:Rw S:=ai acP xn fun s Z=>aa k (B2 k s) (cW Z)
def vK:Fx S:=fp 49 [] [(2,dw [0,7,8] [],a8 4 5),(1000006,dw [0,3,4,5,7,8] [],a8 12 3685)] k f203 0
def yf (s:ByteArray) (v8:Int):St UU:=⟨[(0,(.str s)),(7,(.int .i64 (s.size:Int))),(8,(iI v8))],[],[],[]⟩
def Nw (s:ByteArray) (v8:Int) (x1:UInt8) (letter5:Bool):St UU:=⟨[(0,(.str s)),(3,(iI v8)),(4,(.int .u8 (x1.toNat:Int))),(5,(.bool letter5)),(7,(.int .i64 (s.size:Int))),(8,(iI v8))],[],[],[]⟩
section
variable (k:Nat) (s:ByteArray) (Z:Out UU->Option S)
theorem WQ (v8 x1 Z0): ∀n letter5,(vK k).jn Z 1000006 [Z0] n (Nw s v8 x1 letter5)=CS k (cW Z) (fun v8=>Z0 (yf s v8)) s v8 x1 n letter5:=Mz (Fq k (cW Z) s v8 x1 (fun v8=>Z0 (yf s v8)))
theorem WP: ∀n v8,(vK k).lp Z 2 [] n (yf s v8)=sK k (cW Z) s n v8:=jl (fun own=>wD k (cW Z) s (fun v8 x1 letter5=>CS k (cW Z) own s v8 x1 k letter5) own) rfl (fun _=>rfl) fun r v8=>aq (b:=wD k (cW Z) s (fun v8 x1 letter5=>(vK k).jn Z 1000006 [r] k (Nw s v8 x1 letter5)) (fun v8=>r (yf s v8)) v8) (by kernel_rfl) (by simp only [WQ])
end
theorem ZI (ho:aj o):Tl o 203 (Pu k:Rw S):=am (vK k) trivial func203 fun s Z x h=>aq (b:=JV k (cW Z) (fun v8=>(vK k).lp Z 2 [] k (yf s v8)) s) (by kernel_rfl) (aq (by simp only [WP];rfl) (dt h))
def Pz:Rw S:=ai G4 xn fun s Z=>aa k (tP k s) (cW Z)
def Ul:Fx S:=fp 6 [] [] k f276 0
theorem ZN (ho:aj o):Tl o 276 (Pz k:Rw S):=am (Ul k) trivial func276 fun s Z x h=>ay h
def Id:Rw S:=ai CL xn fun c Z=>aa k (wP k c) (cW Z)
def Ux:Fx S:=fp 11 [(276,Pz k)] [] k f224 0
theorem Lw (ho:aj o):Tl o 224 (Id k:Rw S):=am (Ux k) ⟨ZN k ho,trivial⟩ func224 fun c Z x h=>ay h
def DC:Rw S:=ai MD xn fun a b Z=>aa k (tB k a b) (qX7 Z)
def UG:Fx S:=fp 16 [] [] k f278 0
theorem Gs (ho:aj o):Tl o 278 (DC k:Rw S):=am (UG k) trivial func278 fun a b Z x h=>ay h
def PY:Rw S:=ai MD xn fun a b Z=>aa k (A8 k a b) (cW Z)
def UP:Fx S:=fp 10 [(278,DC k)] [] k f229 0
theorem aad (ho:aj o):Tl o 229 (PY k:Rw S):=am (UP k) ⟨Gs k ho,trivial⟩ func229 fun a b Z x h=>ay h
def P7:Rw S:=ai CM zr fun d c0 Z=>aa k (A_ k d c0) (O7 c0 Z)
def UZ:Fx S:=fp 12 [(229,PY k)] [] k f228 1
theorem aan (ho:aj o):Tl o 228 (P7 k:Rw S):=am (UZ k) ⟨aad k ho,trivial⟩ func228 fun d c0 Z x h=>ay h
def Qg:Rw S:=ai ME zr fun s c0 Z=>aa k (Gg k s c0) (DA c0 Z)
def EX:Fx S:=fp 19 [(228,P7 k)] [(2,dw [0,1,7,8] [(1000000,2)],a8 4 5)] k f277 1
def NK (c0:Cl) (s:List Cl) (v8:Int):St UU:=⟨[(0,(sC s)),(1,(.func 228 [] [(pt 1000000)])),(7,(iI s.length)),(8,(iI v8))],[(1000000,bC c0)],[],[]⟩
section
variable (k:Nat) (s:List Cl) (c0:Cl) (Z:Out UU->Option S)
theorem W7: ∀n v8,(EX k).lp Z 2 [] n (NK c0 s v8)=uI k (DA c0 Z) c0 s n v8:=jl (AB k (DA c0 Z) c0 s)
end
theorem aay (ho:aj o):Tl o 277 (Qg k:Rw S):=am (EX k) ⟨aan k ho,trivial⟩ func277 fun s c0 Z x h=>aq (b:=JM k (DA c0 Z) (fun v8=>(EX k).lp Z 2 [] k (NK c0 s v8)) s c0) (by kernel_rfl) (aq (by simp only [W7];rfl) (dt h))
def Qk:Rw S:=ai ME zr fun s c0 Z=>aa k (Ge k s c0) (O7 c0 Z)
def U9:Fx S:=fp 9 [(277,Qg k)] [] k f227 1
theorem aaC (ho:aj o):Tl o 227 (Qk k:Rw S):=am (U9 k) ⟨aay k ho,trivial⟩ func227 fun s c0 Z x h=>ay h
def Ql:Rw S:=ai CM ak_ fun c c0 Z=>aa k (A9 k c c0) (agV c0 Z)
def U_:Fx S:=fp 7 [(227,Qk k)] [] k f226 1
theorem aaD (ho:aj o):Tl o 226 (Ql k:Rw S):=am (U_ k) ⟨aaC k ho,trivial⟩ func226 fun c c0 Z x h=>ay h
def mW:Rw S:=ai oL xn fun l Z=>aa k (kZ k l) (cR Z)
def vL:Fx S:=fx 55 (fun _=>[]) (fun|53=>true|_=>false) [(224,Id k),(226,Ql k)] [(4,⟨[(4,ab),(5,ab),(13,ab),(14,ab),(15,ab)],[(5,[aQ 200320]),(12,[])]⟩,a8 6 23),(15,⟨[(8,ab),(9,aQ 100009),(34,ab),(35,ab),(36,ab)],[(5,[ab])]⟩,a8 9 191)] k f146 false [] 0
def Hx (l:List Cl) (iR:List (Cl×Bool)) (b5_0:List Cl) (v15:Int):St UU:=⟨[(4,(.mp 12)),(5,(pt 5)),(13,(sC l)),(14,(iI l.length)),(15,(iI v15))],[(5,.cells [(.own 200320 0)]),(12,.map ET.C iR)],[(200320,⟨0,ET.C,b5_0⟩)],[(200320,.wr)]⟩
def NL (b5_0:List Cl) (v36:Int) (kept9:List Cl):St UU:=⟨[(8,(.func 226 [] [(pt 5)])),(9,(.own 100009 0)),(34,(sC b5_0)),(35,(iI b5_0.length)),(36,(iI v36))],[(5,.cells [(sC b5_0)])],[(100009,⟨0,ET.C,kept9⟩)],[(100009,.wr)]⟩
section
variable (k:Nat) (l:List Cl) (Z:Out UU->Option S)
theorem W9 (b5_0): ∀n v36 kept9,(vL k).lp Z 15 [] n (NL b5_0 v36 kept9)=rT k (cR Z) b5_0 n v36 kept9:=dp (zN k (cR Z) b5_0)
theorem W8: ∀n iR b5_0 v15,(vL k).lp Z 4 [] n (Hx l iR b5_0 v15)=ug k (cR Z) l n iR b5_0 v15:=lm (fun own=>vV k (cR Z) l (fun b5_0 v36 kept9=>rT k (cR Z) b5_0 k v36 kept9) own) rfl (fun _=>rfl) fun r iR b5_0 v15=>aq (b:=vV k (cR Z) l (fun b5_0 v36 kept9=>(vL k).lp Z 15 [] k (NL b5_0 v36 kept9)) (fun iR b5_0 v15=>r (Hx l iR b5_0 v15)) iR b5_0 v15) (by kernel_rfl) (by simp only [W9])
end
theorem nG (ho:aj o):Tl o 146 (mW k:Rw S):=am (vL k) ⟨Lw k ho,aaD k ho,trivial⟩ func146 fun l Z x h=>aq (b:=Jc k (cR Z) (fun iR b5_0 v15=>(vL k).lp Z 4 [] k (Hx l iR b5_0 v15)) l) (by kernel_rfl) (aq (by simp only [W8];rfl) (dt h))
def Qm:Rw S:=ai rS xn fun s1 s2 Z=>aa k (BY k s1 s2) (cW Z)
def E1:Fx S:=fp 26 [] [(4,dw [0,1,12,13] [],a8 5 11)] k f223 0
def NM (s1 s2:List Cl) (v13:Int):St UU:=⟨[(0,(sC s1)),(1,(sC s2)),(12,(iI s1.length)),(13,(iI v13))],[],[],[]⟩
section
variable (k:Nat) (s1 s2:List Cl) (Z:Out UU->Option S)
theorem W_: ∀n v13,(E1 k).lp Z 4 [] n (NM s1 s2 v13)=uH k (cW Z) s1 s2 n v13:=jl (Az k (cW Z) s1 s2)
end
theorem aaE (ho:aj o):Tl o 223 (Qm k:Rw S):=am (E1 k) trivial func223 fun s1 s2 Z x h=>aq (b:=JL k (cW Z) (fun v13=>(E1 k).lp Z 4 [] k (NM s1 s2 v13)) s1 s2) (by kernel_rfl) (aq (by simp only [W_];rfl) (dt h))
def te:Rw S:=ai oL xn fun f Z=>aa k (mA k f) (cW Z)
def Va:Fx S:=fp 17 [(146,mW k),(223,Qm k)] [] k f140 0
theorem tY (ho:aj o):Tl o 140 (te k:Rw S):=am (Va k) ⟨nG k ho,aaE k ho,trivial⟩ func140 fun f Z x h=>ay h
def yP:Rw S:=ai nK xn fun i Z=>aa k (rH k i) (cW Z)
def Vb:Fx S:=fp 9 [] [] k f232 0
theorem Cg (ho:aj o):Tl o 232 (yP k:Rw S):=am (Vb k) trivial func232 fun i Z x h=>ay h
def DE:Rw S:=ai CN xn fun s i Z=>aa k (oy k s i) (qx Z)
def Vc:Fx S:=fp 16 [(232,yP k)] [] k f233 0
theorem Gu (ho:aj o):Tl o 233 (DE k:Rw S):=am (Vc k) ⟨Cg k ho,trivial⟩ func233 fun s i Z x h=>ay h
def DF:Rw S:=ai oL xn fun f Z=>aa k (tF k f) (qx Z)
def E2:Fx S:=fp 22 [(233,DE k)] [(3,dw [3,6,7,8] [],a8 5 11)] k f150 0
def NN (f:List Cl) (s3 v8:Int):St UU:=⟨[(3,(iU s3)),(6,(sC f)),(7,(iI f.length)),(8,(iI v8))],[],[],[]⟩
section
variable (k:Nat) (f:List Cl) (Z:Out UU->Option S)
theorem Xa: ∀n s3 v8,(E2 k).lp Z 3 [] n (NN f s3 v8)=uq k (qx Z) f n s3 v8:=dp (z8 k (qx Z) f)
end
theorem Gv (ho:aj o):Tl o 150 (DF k:Rw S):=am (E2 k) ⟨Gu k ho,trivial⟩ func150 fun f Z x h=>aq (b:=Jq k (qx Z) (fun s3 v8=>(E2 k).lp Z 3 [] k (NN f s3 v8)) f) (by kernel_rfl) (aq (by simp only [Xa];rfl) (dt h))
def Qn:Rw S:=ai MF xn fun f dims Z=>aa k (pS k f dims) (cW Z)
def Vd:Fx S:=fp 15 [(150,DF k)] [] k f204 0
theorem aaF (ho:aj o):Tl o 204 (Qn k:Rw S):=am (Vd k) ⟨Gv k ho,trivial⟩ func204 fun f dims Z x h=>ay h
def Ij:Rw S:=ai CL xn fun c Z=>aa k (wO k c) (cW Z)
def Ve:Fx S:=fp 9 [] [] k f269 0
theorem LF (ho:aj o):Tl o 269 (Ij k:Rw S):=am (Ve k) trivial func269 fun c Z x h=>ay h
def Qo:Rw S:=ai MG xn fun s Z=>aa k (Gi k s) (bY Z)
def E3:Fx S:=fp 19 [(269,Ij k)] [(2,dw [0,1,7,8] [],a8 4 5)] k f277 0
def NO (s:List Cl) (v8:Int):St UU:=⟨[(0,(sC s)),(1,(.func 269 [] [])),(7,(iI s.length)),(8,(iI v8))],[],[],[]⟩
section
variable (k:Nat) (s:List Cl) (Z:Out UU->Option S)
theorem Xb: ∀n v8,(E3 k).lp Z 2 [] n (NO s v8)=uJ k (bY Z) s n v8:=jl (AC k (bY Z) s)
end
theorem aaG (ho:aj o):Tl o 277 (Qo k:Rw S):=am (E3 k) ⟨LF k ho,trivial⟩ func277 fun s Z x h=>aq (b:=JN k (bY Z) (fun v8=>(E3 k).lp Z 2 [] k (NO s v8)) s) (by kernel_rfl) (aq (by simp only [Xb];rfl) (dt h))
def Qp:Rw S:=ai MG xn fun s Z=>aa k (Gf k s) (cW Z)
def Vg:Fx S:=fp 9 [(277,Qo k)] [] k f227 0
theorem aaH (ho:aj o):Tl o 227 (Qp k:Rw S):=am (Vg k) ⟨aaG k ho,trivial⟩ func227 fun s Z x h=>ay h
def vd:Rw S:=ai oL xn fun f Z=>aa k (ol k f) (cW Z)
def Vh:Fx S:=fp 10 [(140,te k),(227,Qp k)] [] k f205 0
theorem xy (ho:aj o):Tl o 205 (vd k:Rw S):=am (Vh k) ⟨tY k ho,aaH k ho,trivial⟩ func205 fun f Z x h=>ay h
def Qr:Rw S:=ai ue xn fun t vars dims Z=>aa k (xj k t vars dims) (cW Z)
def vM:Fx S:=fp 138 [(140,te k),(201,Ph k),(202,Pl k),(203,Pu k),(204,Qn k),(205,vd k)] [(1000003,dw [1,2,3] [(3,6)],a8 2 3),(15,dw [2,3,107,108,109] [(3,6)],a8 6 23)] k f115 0
def NQ (t:Tm) (vars dims:Int):St UU:=⟨[(1,(iI vars)),(2,(iI dims)),(3,(pt 3))],[(3,bT t)],[],[]⟩
def NR (t:Tm) (dims:Int) (v109:Int):St UU:=⟨[(2,(iI dims)),(3,(pt 3)),(107,(sB t.sys)),(108,(iI t.sys.length)),(109,(iI v109))],[(3,bT t)],[],[]⟩
section
variable (k:Nat) (t:Tm) (vars dims:Int) (Z:Out UU->Option S)
theorem Xg: ∀n v109,(vM k).lp Z 15 [] n (NR t dims v109)=oY k (cW Z) t dims n v109:=jl (AK k (cW Z) t dims)
theorem Xf: ∀n,(vM k).jn Z 1000003 [] n (NQ t vars dims)=CT k (cW Z) t vars dims n:=My (wE k (cW Z) t vars dims (fun v109=>oY k (cW Z) t dims k v109)) rfl (fun _=>rfl) (aq (b:=wE k (cW Z) t vars dims (fun v109=>(vM k).lp Z 15 [] k (NR t dims v109))) (by kernel_rfl) (by simp only [Xg]))
end
theorem aaJ (ho:aj o):Tl o 115 (Qr k:Rw S):=am (vM k) ⟨tY k ho,Zv k ho,Zz k ho,ZI k ho,aaF k ho,xy k ho,trivial⟩ func115 fun t vars dims Z x h=>aq (b:=JW k (cW Z) ((vM k).jn Z 1000003 [] k (NQ t vars dims)) t vars dims) (by kernel_rfl) (aq (by simp only [Xf];rfl) (dt h))
def ve (hd:gK S):Rw S:=ai acV xn fun t vars dims bound Z=>hd t vars dims bound (cW Z)
def Qt (hd:gK S) (k:Nat):Rw S:=ai acW TI fun a_k v d c0 c1 c2 Z=>aa k (xg hd k a_k v d c0 c1 c2) (lv c0 c1 c2 Z)
def Vm (hd:gK S) (k:Nat):Fx S:=fp 21 [(51,ve hd)] [] k f117 3
theorem aaM (o:Obj) (ho:aj o) (hd:gK S) (Hd:Tl o 51 (ve hd)) (k:Nat):Tl o 117 (Qt hd k:Rw S):=am (Vm hd k) ⟨Hd,trivial⟩ func117 fun a_k v d c0 c1 c2 Z x h=>ay h
def Qu (hd:gK S) (k:Nat):Rw S:=ai acX TI fun t c0 c1 c2 Z=>aa k (B1 hd k t c0 c1 c2) (lv c0 c1 c2 Z)
def rd (hd:gK S) (k:Nat):Fx S:=fp 60 [(49,mV k),(117,Qt hd k)] [(2,dw [1,2,15,16,17] [(2,6),(1000000,1),(1000001,1),(1000002,1)],a8 4 5),(12,dw [1,9,40,41,42] [(1000000,1),(1000001,1),(1000002,1)],a8 7 47),(15,dw [1,9,40,41,42,47,48,49] [(1000000,1),(1000001,1),(1000002,1)],a8 15 13103)] k f116 3
def Hz (c0 c1:Int) (c2:Bool) (t:Tm) (v17:Int):St UU:=⟨[(1,(.func 117 [] [(pt 1000000),(pt 1000001),(pt 1000002)])),(2,(pt 2)),(15,(sT t.kids)),(16,(iI t.kids.length)),(17,(iI v17))],[(2,bT t),(1000000,bI c0),(1000001,bI c1),(1000002,.cells [(.bool c2)])],[],[]⟩
def yh (c0 c1:Int) (c2:Bool) (t:Tm) (v42 more9:Int):St UU:=⟨[(1,(.func 117 [] [(pt 1000000),(pt 1000001),(pt 1000002)])),(9,(iI more9)),(40,(sB t.sys)),(41,(iI t.sys.length)),(42,(iI v42))],[(1000000,bI c0),(1000001,bI c1),(1000002,.cells [(.bool c2)])],[],[]⟩
def NS (c0 c1:Int) (c2:Bool) (t:Tm) (v42:Int) (x4:(Br Tm)) (more9:Int) (v49:Int):St UU:=⟨[(1,(.func 117 [] [(pt 1000000),(pt 1000001),(pt 1000002)])),(9,(iI more9)),(40,(sB t.sys)),(41,(iI t.sys.length)),(42,(iI v42)),(47,(sT x4.kids)),(48,(iI x4.kids.length)),(49,(iI v49))],[(1000000,bI c0),(1000001,bI c1),(1000002,.cells [(.bool c2)])],[],[]⟩
section
variable (hd:gK S) (k:Nat) (t:Tm) (c0 c1:Int) (c2:Bool) (Z:Out UU->Option S)
theorem Xj (v42 x4 more9 Z1): ∀n v49,(rd hd k).lp Z 15 [Z1] n (NS c0 c1 c2 t v42 x4 more9 v49)=ql hd k (lv c0 c1 c2 Z) (fun v42 more9=>Z1 (yh c0 c1 c2 t v42 more9)) c0 c1 c2 t v42 x4 more9 n v49:=jl (AG hd k (lv c0 c1 c2 Z) c0 c1 c2 t v42 x4 more9 (fun v42 more9=>Z1 (yh c0 c1 c2 t v42 more9)))
theorem Xi: ∀n v42 more9,(rd hd k).lp Z 12 [] n (yh c0 c1 c2 t v42 more9)=mI hd k (lv c0 c1 c2 Z) c0 c1 c2 t n v42 more9:=dp (fun own=>ww hd k (lv c0 c1 c2 Z) c0 c1 c2 t (fun v42 x4 more9 v49=>ql hd k (lv c0 c1 c2 Z) own c0 c1 c2 t v42 x4 more9 k v49) own) rfl (fun _=>rfl) fun r v42 more9=>aq (b:=ww hd k (lv c0 c1 c2 Z) c0 c1 c2 t (fun v42 x4 more9 v49=>(rd hd k).lp Z 15 [r] k (NS c0 c1 c2 t v42 x4 more9 v49)) (fun v42 more9=>r (yh c0 c1 c2 t v42 more9)) v42 more9) (by kernel_rfl) (by simp only [Xj])
theorem Xh: ∀n v17,(rd hd k).lp Z 2 [] n (Hz c0 c1 c2 t v17)=sE hd k (lv c0 c1 c2 Z) c0 c1 c2 t n v17:=jl (fun own=>wq hd k (lv c0 c1 c2 Z) c0 c1 c2 t (fun v42 more9=>mI hd k (lv c0 c1 c2 Z) c0 c1 c2 t k v42 more9) own) rfl (fun _=>rfl) fun r v17=>aq (b:=wq hd k (lv c0 c1 c2 Z) c0 c1 c2 t (fun v42 more9=>(rd hd k).lp Z 12 [] k (yh c0 c1 c2 t v42 more9)) (fun v17=>r (Hz c0 c1 c2 t v17)) v17) (by kernel_rfl) (by simp only [Xi])
end
theorem aaN (o:Obj) (ho:aj o) (hd:gK S) (Hd:Tl o 51 (ve hd)) (k:Nat):Tl o 116 (Qu hd k:Rw S):=am (rd hd k) ⟨nF k ho,aaM o ho hd Hd k,trivial⟩ func116 fun t c0 c1 c2 Z x h=>aq (b:=JR hd k (lv c0 c1 c2 Z) (fun v17=>(rd hd k).lp Z 2 [] k (Hz c0 c1 c2 t v17)) t c0 c1 c2) (by kernel_rfl) (aq (by simp only [Xh];rfl) (dt h))
def Vk (hd:gK S) (k:Nat):Fx S:=fp 24 [(115,Qr k),(116,Qu hd k)] [] k f51 0
theorem GW (o:Obj) (ho:aj o): ∀k:Nat,Tl o 51 (ve (kh k:gK S))
 |0=>kI fun t vars dims bound Z x h=>by cases h
 |k+1=>am (Vk (kh k) k) ⟨aaJ k ho,aaN o ho (kh k) (GW o ho k) k,trivial⟩ func51 fun t vars dims bound Z x h=>aq (by kernel_rfl) h
def mg:Rw S:=ai ko xn fun t Z=>aa k (j0 k t) (bY Z)
def Vn:Fx S:=fp 12 [(50,H1 k),(51,ve (kh k))] [] k f40 0
theorem mB (ho:aj o):Tl o 40 (mg k:Rw S):=am (Vn k) ⟨Ll k ho,GW o ho k,trivial⟩ func40 fun t Z x h=>ay h
def pf (hd:jS S):Rw S:=ai ko xn fun t Z=>hd t (Df Z)
def Qv (hd:jS S) (k:Nat):Rw S:=ai MH xn fun l Z=>aa k (xh hd k l) (Dg Z)
def E5 (hd:jS S) (k:Nat):Fx S:=fp 19 [(41,pf hd)] [(3,⟨[(3,aQ 100003),(6,ab),(7,ab),(8,ab)],[]⟩,a8 5 11)] k f92 0
def NU (l:List Tm) (out3:List Tm) (v8:Int):St UU:=⟨[(3,(.own 100003 0)),(6,(sT l)),(7,(iI l.length)),(8,(iI v8))],[],[(100003,⟨0,ET.T,out3⟩)],[(100003,.wr)]⟩
section
variable (hd:jS S) (k:Nat) (l:List Tm) (Z:Out UU->Option S)
theorem Xl: ∀n out3 v8,(E5 hd k).lp Z 3 [] n (NU l out3 v8)=uL hd k (Dg Z) l n out3 v8:=dp (AE hd k (Dg Z) l)
end
theorem aaO (o:Obj) (ho:aj o) (hd:jS S) (Hd:Tl o 41 (pf hd)) (k:Nat):Tl o 92 (Qv hd k:Rw S):=am (E5 hd k) ⟨Hd,trivial⟩ func92 fun l Z x h=>aq (b:=JP hd k (Dg Z) (fun out3 v8=>(E5 hd k).lp Z 3 [] k (NU l out3 v8)) l) (by kernel_rfl) (aq (by simp only [Xl];rfl) (dt h))
def E4 (hd:jS S) (k:Nat):Fx S:=fp 40 [(91,IH),(92,Qv hd k)] [(3,⟨[(2,ab),(3,ab),(20,ab),(21,ab),(22,ab)],[(2,[ab,ab,ab,aQ 200131,aQ 200132,aQ 200133]),(3,[ab,ab,ab,ab,ab,aQ 200197])]⟩,a8 5 11)] k f41 0
def NT (t:Tm) (r1:List Cl) (r2:List Tm) (b3_5:List (Br Tm)) (v22:Int):St UU:=⟨[(2,(pt 2)),(3,(pt 3)),(20,(sB t.sys)),(21,(iI t.sys.length)),(22,(iI v22))],[(2,.cells [(iI 0),(iI 0),jv,(.own 200131 0),(.own 200132 0),(.own 200133 0)]),(3,.cells [(iI t.kind),(iI t.n),(.str t.name),(sC r1),(sT r2),(.own 200197 0)])],[(200197,⟨0,ET.B,b3_5⟩),(200133,gP),(200132,je),(200131,iP)],[(200197,.wr),(200133,.wr),(200132,.wr),(200131,.wr)]⟩
section
variable (hd:jS S) (k:Nat) (t:Tm) (Z:Out UU->Option S)
theorem Xk (r1 r2): ∀n b3_5 v22,(E4 hd k).lp Z 3 [] n (NT t r1 r2 b3_5 v22)=uK hd k (Df Z) t r1 r2 n b3_5 v22:=dp (AD hd k (Df Z) t r1 r2)
end
theorem rQ (o:Obj) (ho:aj o): ∀k:Nat,Tl o 41 (pf (fH k:jS S))
 |0=>kI fun t Z x h=>by cases h
 |k+1=>am (E4 (fH k) k) ⟨akf o ho,aaO o ho (fH k) (rQ o ho k) k,trivial⟩ func41 fun t Z x h=>aq (b:=JO (fH k) k (Df Z) (fun r1 r2 b3_5 v22=>(E4 (fH k) k).lp Z 3 [] k (NT t r1 r2 b3_5 v22)) t) (by kernel_rfl) (aq (by simp only [Xk];rfl) h)
def lx:Rw S:=ai MI dN fun t a_e c0 Z=>aa k (jh k t a_e c0) (kA Z)
def Vp:Fx S:=fp 23 [] [] k f93 1
theorem l7 (ho:aj o):Tl o 93 (lx k:Rw S):=am (Vp k) trivial func93 fun t a_e c0 Z x h=>ay h
def ahD:Rw S:=ai xO dN fun c0 Z=>aa k (ef k c0) (jM c0 Z)
def ly:Rw S:=ai xO dN fun c0 Z=>aa k (ef k c0) (cW Z)
def Vq:Fx S:=fp 8 [] [] k f94 1
theorem aaQ (ho:aj o):Tl o 94 (ahD k:Rw S):=am (Vq k) trivial func94 fun c0 Z x h=>ay h
theorem l8 (ho:aj o):Tl o 94 (ly k:Rw S):=SU (aaQ k ho) fun c0 Z x h=>aq (b:=aa k (ef k c0) (jM c0 (A0 _ Z))) (by kernel_rfl) (aq (congrArg (aa k (ef k c0)) (funext fun r=>if_pos rfl)) h)
def DH:Rw S:=ai oM dN fun t c0 Z=>aa k (hY k t c0) (agW Z)
def Vr:Fx S:=fp 20 [(40,mg k),(41,pf (fH k)),(93,lx k),(94,ly k)] [] k f42 1
theorem Gw (ho:aj o):Tl o 42 (DH k:Rw S):=am (Vr k) ⟨mB k ho,rQ o ho k,l7 k ho,l8 k ho,trivial⟩ func42 fun t c0 Z x h=>ay h
end
end Go.Proofs.YtgajalidbabccaaGreatDoor
