/- Part 3 of a proof: the sources, with their names and remarks, lie in wip/. -/
import Derived.Test.YtehekgbehghgdaaGreatDoorX2
import Derived.Test.YtehekgbehghgdaaGreatDoorRows
import Derived.ProofKit
import Derived.OpenShut
import Derived.ChangeArms
import Derived.Deep.Slices
import Derived.Shelf.SlSortCmp.NoneTotal
import Derived.Ground.SlsfProg
import Derived.Test.YtehekgbehghgdaaGreatDoorProg
import Derived.Shelf.Spec.TrailingZeros
import Derived.RangeFuncBound
import Derived.RangeFuncLeaves
import Derived.RangeFuncOwn
import Derived.OwnWalkIn
import Derived.TacticsInMore
import Derived.LoopNIn
import Derived.LoopIn
import Derived.Maps.RangeWalk
import Derived.Maps.AppendAt
import Derived.Test.YtehekgbehghgdaaGreatDoorCards
import Derived.Test.YtehekgbehghgdaaGreatDoorTie
import Derived.WalkKit
import Derived.ReadAgain
import Derived.Deep.DeepHandedRow
import Derived.Lib.LaidTab
namespace Go.Proofs.YtehekgbehghgdaaGreatDoor
open Go PI
set_option linter.unusedVariables false
set_option linter.unusedSimpArgs false
abbrev M24:Nat:=16777215
theorem JV {n:Nat} (h:n<24):2^n<4294967296:=Nat.lt_of_lt_of_le (Nat.pow_lt_pow_right (by decide) h) (by decide)
theorem zR (n:Nat):(2:Int)^n=((2^n:Nat):Int):=by simp
theorem AW (m n:Nat):Int.fdiv (m:Int) ((2:Int)^n)=((m/2^n:Nat):Int):=by
 grind
variable {S:Type} {k:Nat}
theorem x_ (hk:Fu k) (i:Int) (ret:Bool→Option S):kZ k i ret=ret (decide (0≤i∧i<24)):=by
 grind [kZ,OF,aO]
theorem ae1 (hk:Fu k) {m:Nat} (hm:m<4294967296) (ret:Bool→Option S):mN k (m:Int) ret=ret (decide (m<16777216)):=by
 simp only [mN,OB]
 rw [show (16777215:Int)=((16777215:Nat):Int) from rfl,zu hm (by decide)]
 congr 1
 rw [Bool.eq_iff_iff]
 simp only [beq_iff_eq,decide_eq_true_eq]
 have key:dc m 16777215=0↔m<16777216:=by
  constructor
  ·intro h
   apply Nat.lt_pow_two_of_testBit (n:=24)
   intro i hi
   have h2:=kf m 16777215 i
   rw [h,Nat.zero_testBit] at h2
   have:(16777215:Nat).testBit i=false:=Nat.testBit_lt_two_pow (Nat.lt_of_lt_of_le (by decide:16777215<2^24) (Nat.pow_le_pow_right (by decide) hi))
   grind
  ·intro h
   apply Nat.eq_of_testBit_eq
   intro i
   rw [kf,Nat.zero_testBit]
   by_cases hi:i<24
   ·have:(16777215:Nat).testBit i=true:=by
     rw [show (16777215:Nat)=2^24-1 from rfl,Nat.testBit_two_pow_sub_one];grind
    grind
   ·have h2:(2:Nat)^24≤2^i:=Nat.pow_le_pow_right (by decide) (by omega)
    grind [Nat.testBit_lt_two_pow]
 omega
theorem aeZ (hk:Fu k) {m:Nat} (hm:m<4294967296) (i:Int) (ret:Bool→Option S):fQ k (m:Int) i ret=ret (decide (0≤i∧i<24)&&m.testBit i.toNat):=by
 simp only [fQ,OA,x_ hk,ak hk]
 by_cases h:0≤i∧i<24
 ·obtain ⟨n,rfl⟩: ∃n:Nat,i=n:=⟨i.toNat,by omega⟩
  have hn:n<24:=by omega
  rw [decide_eq_true h,ai,Bool.true_and,gn n (by omega),gq _ (by omega)]
  congr 1
  rw [Int.toNat_natCast,Nat.min_eq_left (by omega),AW,show (1:Int)=((1:Nat):Int) from rfl,js (Nat.lt_of_le_of_lt (Nat.div_le_self _ _) hm) (by decide)]
  grind
 grind [ad]
theorem ae2 (hk:Fu k) {m:Nat} (hm:m<4294967296) (i:Int) (ret:Int→Option S):gz k (m:Int) i ret=ret (if 0≤i∧i<24 then (((m&&&M24)|||2^i.toNat:Nat):Int) else ((m&&&M24:Nat):Int)):=by
 simp only [gz,OC,x_ hk,ak hk]
 have hand:aV .and .u32 (m:Int) 16777215=((m&&&M24:Nat):Int):=js hm (by decide:(16777215:Nat)<4294967296)
 have hlt:m&&&M24<4294967296:=ph (n:=32) hm
 rw [hand]
 by_cases h:0≤i∧i<24
 ·obtain ⟨n,rfl⟩: ∃n:Nat,i=n:=⟨i.toNat,by omega⟩
  grind [gn,ad,gq,Int.toNat_natCast,jo,JV,tj]
 ·rw [decide_eq_false h,if_neg h];rfl
theorem ae3 (hk:Fu k) {m:Nat} (hm:m<4294967296) (i:Int) (ret:Int→Option S):iy k (m:Int) i ret=ret (if 0≤i∧i<24 then ((dc (m&&&M24) (2^i.toNat):Nat):Int) else ((m&&&M24:Nat):Int)):=by
 simp only [iy,OD,x_ hk,ak hk]
 have hand:aV .and .u32 (m:Int) 16777215=((m&&&M24:Nat):Int):=js hm (by decide:(16777215:Nat)<4294967296)
 have hlt:m&&&M24<4294967296:=ph (n:=32) hm
 rw [hand]
 by_cases h:0≤i∧i<24
 ·grind [gn,ad,gq,Int.toNat_natCast,jo,JV,zu]
 ·rw [decide_eq_false h,if_neg h];rfl
theorem NE (hk:Fu k) (n:Nat) (hn:n<18446744073709551616) (ret:Int→Option S):mO k (n:Int) ret=ret ((2^min n 24-1:Nat):Int):=by
 simp only [mO,OE]
 have e:(if (24:Int)<(n:Int) then (24:Int) else (n:Int))=((min n 24:Nat):Int):=by
  omega
 rw [e,gn _ (by omega),gq _ (by omega),Int.toNat_natCast]
 congr 1
 generalize hq:min n 24=q
 have hq24:q≤24:=by omega
 rw [Nat.min_eq_left (by omega),Int.one_mul,zR]
 have h1:2^q≤2^24:=Nat.pow_le_pow_right (by decide) hq24
 grind [gn,jo]
def fA (m n:Nat):Nat:=(m&&&M24)&&&(2^min n 24-1)
def cL (m n:Nat):Nat:=dc (m&&&M24) (2^min n 24-1)
def dV (m n b:Nat):Nat×Nat:=
 if cL m n=0 then (fA m n,0) else if 24≤b then (0,10) else if cL m n*2^b>16777215 then (0,10) else (fA m n|||(cL m n*2^b),0)
theorem ae0 (hk:Fu k) {m:Nat} (hm:m<4294967296) (n b:Nat) (hn:n<9223372036854775808) (hb:b<9223372036854775808) (ret:Int×Int→Option S):
  jB k (m:Int) (n:Int) (b:Int) ret=ret (((dV m n b).1:Int),((dV m n b).2:Int)):=by
 have hand:aV .and .u32 (m:Int) 16777215=((m&&&M24:Nat):Int):=js hm (by decide:(16777215:Nat)<4294967296)
 have hlt:m&&&M24<16777216:=Nat.lt_of_le_of_lt Nat.and_le_right (by decide)
 have hbl:2^min n 24-1<4294967296:=by
  have:2^min n 24≤2^24:=Nat.pow_le_pow_right (by decide) (by omega)
  omega
 have hhi:cL m n<16777216:=r_ (n:=24) hlt
 have hlow:aV .and .u32 ((m&&&M24:Nat):Int) ((2^min n 24-1:Nat):Int)=((fA m n:Nat):Int):=js (by omega) hbl
 have hhigh:aV .andNot .u32 ((m&&&M24:Nat):Int) ((2^min n 24-1:Nat):Int)=((cL m n:Nat):Int):=zu (by omega) hbl
 simp only [jB,ye]
 rw [aO,aO,if_neg (by omega),if_neg (by omega)]
 simp only [NE hk n (by omega),ak hk,hand,hlow,hhigh]
 rw [gn _ (by omega)]
 unfold dV
 by_cases h0:cL m n=0
 ·grind [ai]
 ·rw [if_neg h0]
  have hb0:(((cL m n:Nat):Int)==0)=false:=by
   grind
  simp only [hb0,ad,aO]
  by_cases h24:24≤b
  ·grind
  ·rw [if_neg (by omega),if_neg h24,gn b (by omega),gq _ (by omega),Int.toNat_natCast,Nat.min_eq_left (by omega),zR]
   have hp:2^b≤2^23:=Nat.pow_le_pow_right (by decide) (by omega)
   have h23:(2:Nat)^23=8388608:=by decide
   have hmul:cL m n*2^b<18446744073709551616:=by
    have:=Nat.mul_le_mul (Nat.le_of_lt hhi) hp
    omega
   have ec:((cL m n:Nat):Int)*((2^b:Nat):Int)=((cL m n*2^b:Nat):Int):=by simp
   rw [ec,gn _ hmul]
   by_cases hg:cL m n*2^b>16777215
   ·grind
   ·rw [if_neg (by omega),if_neg hg]
    rw [jo _ (by omega),gq _ (by omega),tj (by grind [fA,Nat.and_le_left]) (by omega)]
    rfl
end Go.Proofs.YtehekgbehghgdaaGreatDoor
namespace Go.Proofs.YtehekgbehghgdaaGreatDoor
open Go PI
set_option linter.unusedVariables false
set_option linter.unusedSimpArgs false
set_option maxRecDepth 20000
variable {S:Type} {k:Nat}
def bX (l:List Nat):Nat:=(l.map (2^ ·)).sum
theorem US {x a:Nat} (h:x.testBit a=false):x+2^a=x|||2^a:=by
 have h1:x=2^(a+1)*(x/2^(a+1))+x%2^(a+1):=(Nat.div_add_mod _ _).symm
 have hlt:x%2^(a+1)<2^a:=by
  have hb:(x%2^(a+1)).testBit a=false:=by grind
  grind [Nat.lt_pow_two_of_testBit,Nat.testBit_lt_two_pow]
 generalize x/2^(a+1)=q at h1
 generalize x%2^(a+1)=r at h1 hlt
 have hp:(2:Nat)^(a+1)=2^a*2:=Nat.pow_succ 2 a
 have e1:2^a+r=2^a|||r:=by
  have:=Nat.two_pow_add_eq_or_of_lt hlt 1
  grind
 have e2:x=2^(a+1)*q|||r:=by grind [Nat.two_pow_add_eq_or_of_lt]
 grind [Nat.two_pow_add_eq_or_of_lt]
theorem mm: ∀ (l:List Nat),l.Nodup→ ∀j,(bX l).testBit j=decide (j∈l):=by
 intro l
 induction l with
 |nil=>grind [bX]
 |cons a l ih=>
  intro hn j
  have hn':=List.nodup_cons.1 hn
  have ha:(bX l).testBit a=false:=by grind
  have e:bX (a::l)=bX l|||2^a:=by
   grind [US,bX]
  grind
theorem aeP: ∀ (l:List Nat),(∀x∈l,x<24)→bX l≤l.length*8388608:=by
 intro l
 induction l with
 |nil=>intro _;simp [bX]
 |cons a l ih=>
  intro h
  have h1:=ih fun x hx=>h x (by simp [hx])
  have h2:2^a≤2^23:=Nat.pow_le_pow_right (by decide) (by have:=h a (by simp);omega)
  grind [bX]
def bz (m:Nat):List Nat:=(List.range 24).filter m.testBit
theorem mw (m:Nat):(bz m).Nodup:=List.nodup_range.filter _
theorem mem_bitsN {m j:Nat}:j∈bz m↔j<24∧m.testBit j=true:=by simp [bz]
theorem fb (m:Nat):(bz m).length≤24:=by
 grind [bz]
theorem fN (j:Nat):M24.testBit j=decide (j<24):=by
 rw [show M24=2^24-1 from rfl,Nat.testBit_two_pow_sub_one]
theorem Ds (m:Nat):bX (bz m)=m&&&M24:=by
 apply Nat.eq_of_testBit_eq
 grind [mm,mw,fN,mem_bitsN]
theorem aas (ret:Int→Option S) (n:Nat) (hn:n≤30): ∀ (d i m:Nat),i+d=n→d<m→nH k ret (n:Int) m ((2^i:Nat):Int) (i:Int)=ret ((2^n:Nat):Int):=by
 intro d
 induction d with
 |zero=>
  intro i m h hm
  obtain ⟨m,rfl⟩: ∃q,m=q+1:=⟨m-1,by omega⟩
  grind [nH,tP,aO]
 |succ d ih=>
  intro i m h hm
  obtain ⟨m,rfl⟩: ∃q,m=q+1:=⟨m-1,by omega⟩
  simp only [nH,tP,aO]
  have hp:2^i≤2^30:=Nat.pow_le_pow_right (by decide) (by omega)
  have h30:(2:Nat)^30=1073741824:=by decide
  have hc:(0:Int)≤((2^i:Nat):Int):=Int.natCast_nonneg _
  rw [if_pos (by omega),c5 (by omega) (by omega),c5 (by omega) (by omega)]
  have e1:((2^i:Nat):Int)*2=((2^(i+1):Nat):Int):=by rfl
  grind
theorem Dz (hk:Fu k) (n:Nat) (hn:n≤30) (ret:Int→Option S):mR k (n:Int) ret=ret ((2^n:Nat):Int):=by
 simp only [mR,Eb]
 have:=aas (k:=k) ret n hn n 0 k (by omega) (by omega)
 omega
theorem ae6 (hk:Fu k) {m:Nat} (hm:m<4294967296) (ret:Bool→Option S):mQ k (m:Int) ret=ret (decide (m<16777216)):=by
 simp only [mQ,OR,ak hk]
 rw [show (24:Int)=((24:Nat):Int) from rfl,Dz hk 24 (by omega),c5 (by omega) (by omega)]
 grind [decide]
theorem NF (hk:Fu k) {m:Nat} (hm:m<4294967296) (i:Int) (ret:Bool→Option S):dl k (m:Int) i ret=ret (decide (0≤i∧i<24)&&m.testBit i.toNat):=by
 simp only [dl,OQ,aO,ak hk]
 by_cases h0:i≥0
 ·rw [if_pos h0]
  by_cases h1:i<24
  ·rw [if_pos h1]
   obtain ⟨n,rfl⟩: ∃n:Nat,i=n:=⟨i.toNat,by omega⟩
   have hp:0<2^n:=Nat.two_pow_pos n
   rw [Dz hk n (by omega),gq _ (by omega)]
   rw [c5 (n:=(m:Int)) (by omega) (by omega)]
   have e1:Int.tdiv (m:Int) ((2^n:Nat):Int)=((m/2^n:Nat):Int):=(Int.ofNat_tdiv m (2^n)).symm
   rw [e1]
   have hd:m/2^n≤m:=Nat.div_le_self _ _
   have hc:(0:Int)≤((m/2^n:Nat):Int):=Int.natCast_nonneg _
   rw [c5 (by omega) (by omega)]
   have e2:Int.tmod ((m/2^n:Nat):Int) 2=((m/2^n%2:Nat):Int):=(Int.ofNat_tmod (m/2^n) 2).symm
   rw [e2,decide_eq_true (by omega),Bool.true_and,Int.toNat_natCast]
   congr 1
   grind
  grind
 grind
def ints (l:List Nat):List Int:=l.map Int.ofNat
theorem A9 (l:List Nat) (i:Nat):(ints l)[i]? =(l[i]?).map Int.ofNat:=by simp [ints]
theorem dT (l:List Nat):(ints l).length=l.length:=by simp [ints]
theorem ZL (hk:Fu k) (ret:Int→Option S) (l:List Nat) (hl:l.length≤64) (h24: ∀x∈l,x<24): ∀ (d i m:Nat),i+d=l.length→d<m→nF k ret (ints l) m ((bX (l.take i):Nat):Int) (i:Int)=ret ((bX l:Nat):Int):=by
 have hbound: ∀i,bX (l.take i)≤64*8388608:=by
  grind [aeP]
 intro d
 induction d with
 |zero=>
  intro i m h hm
  obtain ⟨m,rfl⟩: ∃q,m=q+1:=⟨m-1,by omega⟩
  grind [nF,tN,aO,dT,jo]
 |succ d ih=>
  intro i m h hm
  obtain ⟨m,rfl⟩: ∃q,m=q+1:=⟨m-1,by omega⟩
  simp only [nF,tN,aO,dT,ak hk]
  have hi:i<l.length:=by omega
  rw [if_pos (by omega),qY,A9,List.getElem?_eq_getElem hi]
  simp only [Option.map_some,Option.bind_some]
  have hx:=h24 _ (List.getElem_mem hi)
  have hb:=hbound i
  rw [show Int.ofNat l[i]=((l[i]:Nat):Int) from rfl,Dz hk _ (by omega)]
  have hp:2^l[i]≤2^24:=Nat.pow_le_pow_right (by decide) (by omega)
  have h24:(2:Nat)^24=16777216:=by decide
  have hc:(0:Int)≤((2^l[i]:Nat):Int):=Int.natCast_nonneg _
  rw [c5 (by omega) (by omega),c5 (by omega) (by omega)]
  have e1:((bX (l.take i):Nat):Int)+((2^l[i]:Nat):Int)=((bX (l.take (i+1)):Nat):Int):=by
   grind [List.take_add_one,bX]
  grind
theorem oQ (hk:Fu k) (l:List Nat) (hl:l.length≤64) (h24: ∀x∈l,x<24) (ret:Int→Option S):gC k (ints l) ret=ret ((bX l:Nat):Int):=by
 simp only [gC,D_]
 have:=ZL hk ret l hl h24 l.length 0 k (by omega) (by omega)
 grind [bX]
theorem ZJ (hk:Fu k) (ret:List Int→Option S) {q:Nat} (hq:q<4294967296): ∀ (d i m:Nat),i+d=24→d<m→rj k ret (q:Int) m (ints ((List.range i).filter q.testBit)) (i:Int)=ret (ints (bz q)):=by
 intro d
 induction d with
 |zero=>
  intro i m h hm
  obtain ⟨m,rfl⟩: ∃q,m=q+1:=⟨m-1,by omega⟩
  have:i=24:=by omega
  subst this
  rfl
 |succ d ih=>
  intro i m h hm
  obtain ⟨m,rfl⟩: ∃q,m=q+1:=⟨m-1,by omega⟩
  simp only [rj,zD,aO,ak hk]
  rw [if_pos (by omega),NF hk hq,decide_eq_true (by omega),Bool.true_and,Int.toNat_natCast,c5 (by omega) (by omega)]
  have e2:(i:Int)+1=((i+1:Nat):Int):=by simp
  have hlen:(ints ((List.range i).filter q.testBit)).length≤24:=by
   grind [dT]
  rw [e2]
  cases hb:q.testBit i with
  |true=>
   rw [ai,aL (by grind)]
   have:ints ((List.range i).filter q.testBit)++[(i:Int)]=ints ((List.range (i+1)).filter q.testBit):=by
    grind [List.range_succ,ints]
   grind
  |false=>
   rw [ad]
   have:ints ((List.range i).filter q.testBit)=ints ((List.range (i+1)).filter q.testBit):=by
    grind [List.range_succ]
   grind
theorem oP (hk:Fu k) {q:Nat} (hq:q<4294967296) (ret:List Int→Option S):gA k (q:Int) ret=ret (ints (bz q)):=by
 simp only [gA,D9]
 have:=ZJ hk ret hq 24 0 k (by omega) (by omega)
 grind [ints]
theorem ZM (hk:Fu k) (ret:Int→Option S) (n:Int) (l:List Nat) (hl:l.length≤64) (h24: ∀x∈l,x<24): ∀ (d i m:Nat),i+d=l.length→d<m→
  nG k ret n (ints l) m (ints ((l.take i).filter fun x:Nat=> !((x:Int)==n))) (i:Int)=ret ((bX (l.filter fun x:Nat=> !((x:Int)==n)):Nat):Int):=by
 intro d
 induction d with
 |zero=>
  intro i m h hm
  obtain ⟨m,rfl⟩: ∃q,m=q+1:=⟨m-1,by omega⟩
  grind [nG,tO,aO,dT,ak,oQ]
 |succ d ih=>
  intro i m h hm
  obtain ⟨m,rfl⟩: ∃q,m=q+1:=⟨m-1,by omega⟩
  simp only [nG,tO,aO,dT,ak hk]
  have hi:i<l.length:=by omega
  rw [if_pos (by omega),qY,A9,List.getElem?_eq_getElem hi]
  simp only [Option.map_some,Option.bind_some]
  rw [c5 (n:=(i:Int)+1) (by omega) (by omega)]
  have e2:(i:Int)+1=((i+1:Nat):Int):=by simp
  rw [e2,show Int.ofNat l[i]=((l[i]:Nat):Int) from rfl]
  have et:(l.take (i+1)).filter (fun x:Nat=> !((x:Int)==n))=(l.take i).filter (fun x:Nat=> !((x:Int)==n))++(if !((l[i]:Int)==n) then [l[i]] else []):=by
   grind [List.take_add_one]
  grind [ai,aL,ints,ad]
theorem sU (hk:Fu k) {q:Nat} (hq:q<4294967296) (i:Int) (ret:Int→Option S):fg k (q:Int) i ret=ret (if 0≤i∧i<24 then ((dc (q&&&M24) (2^i.toNat):Nat):Int) else ((q&&&M24:Nat):Int)):=by
 simp only [fg,Ea,ak hk,oP hk hq]
 have:=ZM hk ret i (bz q) (by have:=fb q;omega) (fun x hx=>(mem_bitsN.1 hx).1) (bz q).length 0 k (by omega) (by have:=fb q;omega)
 simp only [List.take_zero,List.filter_nil] at this
 have h0:(ints []:List Int)=[]:=rfl
 rw [h0] at this
 refine Eq.trans this ?_
 congr 1
 have hnd:((bz q).filter fun x:Nat=> !((x:Int)==i)).Nodup:=(mw q).filter _
 by_cases h:0≤i∧i<24
 ·rw [if_pos h]
  congr 1
  apply Nat.eq_of_testBit_eq
  grind [mm,kf,fN,mem_bitsN]
 grind [Ds,List.filter_eq_self,mem_bitsN]
theorem ae7 (hk:Fu k) {q:Nat} (hq:q<4294967296) (i:Int) (ret:Int→Option S):qr k (q:Int) i ret=ret (if 0≤i∧i<24 then (((q&&&M24)|||2^i.toNat:Nat):Int) else ((q&&&M24:Nat):Int)):=by
 simp only [qr,OS,aO,ak hk]
 have hq24:q&&&M24<4294967296:=ph (n:=32) hq
 by_cases h0:i<0
 ·grind [sU]
 ·rw [if_neg h0]
  by_cases h1:i≥24
  ·grind [sU]
  ·rw [if_neg h1,sU hk hq,if_pos (by omega),if_pos (by omega)]
   obtain ⟨n,rfl⟩: ∃n:Nat,i=n:=⟨i.toNat,by omega⟩
   have hw:dc (q&&&M24) (2^n)<4294967296:=r_ (n:=32) hq24
   rw [Int.toNat_natCast,oP hk hw,aL (by grind [dT,fb])]
   have e:ints (bz (dc (q&&&M24) (2^n)))++[(n:Int)]=ints (bz (dc (q&&&M24) (2^n))++[n]):=by simp [ints]
   rw [e,oQ hk _ (by grind [fb]) (fun x hx=>by
    grind [mem_bitsN])]
   congr 2
   apply Nat.eq_of_testBit_eq
   intro j
   rw [mm]
   all_goals grind [fN,mem_bitsN,kf,mw]
end Go.Proofs.YtehekgbehghgdaaGreatDoor
namespace Go.Proofs.YtehekgbehghgdaaGreatDoor
open Go PI
set_option linter.unusedVariables false
set_option linter.unusedSimpArgs false
set_option maxRecDepth 20000
variable {S:Type} {k:Nat}
theorem qX {α:Type} (p r:List α) (x:α):ae (p++x::r) (p.length:Int)=some x:=by simp [ae]
theorem aeQ {α:Type} (p r:List α) (x y:α):(p++x::r).set p.length y=(p++[y])++r:=by simp
theorem my {m:Nat} (h:m<16777216) {j:Nat} (hj:m.testBit j=true):j<24:=by
 apply Classical.byContradiction
 intro hn
 have:m<2^j:=Nat.lt_of_lt_of_le h (Nat.pow_le_pow_right (n:=2) (i:=24) (j:=j) (by decide) (by omega))
 grind [Nat.testBit_lt_two_pow]
theorem HX (m:Nat):m<16777216↔ ∀j,m.testBit j=true→j<24:=by
 constructor
 ·intro h j hj;exact my h hj
 ·intro h
  apply Nat.lt_pow_two_of_testBit (n:=24)
  grind
def dw (n b x:Nat):Nat:=if x<n then x else x+b
theorem ZI (hk:Fu k) (ret:Int×Int→Option S) (n b:Nat) (hn:n<9223372036854775808) (hb:b<9223372036854775808):
  ∀ (r p:List Nat) (m:Nat),(p++r).length≤24→(∀x∈r,x<24)→r.length<m→(∀x∈p,x<24)→
  ly k ret (n:Int) (b:Int) m (ints (p++r)) (p.length:Int)=
   if (∃x∈r,n≤x∧24≤x+b) then ret (0,10) else ret (((bX (p++r.map (dw n b)):Nat):Int),0):=by
 intro r
 induction r with
 |nil=>
  intro p m hl h24 hm hp
  obtain ⟨m,rfl,hm⟩:=al hm
  grind [ly,tM,aO,dT,ak,oQ]
 |cons x r ih=>
  intro p m hl h24 hm hp
  obtain ⟨m,rfl,hm⟩:=al hm
  have hx:=h24 x (by simp)
  have hl':p.length+(r.length+1)≤24:=by grind
  have e0:ints (p++x::r)=ints p++(x:Int)::ints r:=by simp [ints]
  have el:(p.length:Int)=((ints p).length:Int):=by rw [dT]
  simp only [ly,tM,aO,ak hk]
  rw [if_pos (by grind),e0,el,qX]
  simp only [Option.bind_some]
  have ew:IntKind.wrap .i64 (((ints p).length:Int)+1)=(((p++[x]).length:Nat):Int):=by
   grind [c5]
  have key: ∀y:Nat,y<24→ly k ret (n:Int) (b:Int) m (ints p++(y:Int)::ints r) (((p++[x]).length:Nat):Int)=if (∃x∈r,n≤x∧24≤x+b) then ret (0,10) else ret (((bX ((p++[y])++r.map (dw n b)):Nat):Int),0):=by
   intro y hy
   have:=ih (p++[y]) m (by grind) (fun z hz=>h24 z (by simp [hz])) (by grind) (by
    grind)
   grind [ints]
  rw [ew]
  by_cases hxn:x<n
  ·rw [if_pos (by omega),key x hx]
   have e1:dw n b x=x:=by grind [dw]
   have e2:(∃z∈x::r,n≤z∧24≤z+b)↔(∃z∈r,n≤z∧24≤z+b):=by
    grind
   simp only [e2,List.map_cons,e1,List.append_assoc,List.singleton_append]
  ·rw [if_neg (by omega),c5 (n:=24-(x:Int)) (by omega) (by omega)]
   by_cases hby:24≤x+b
   ·rw [if_pos (by omega),if_pos ⟨x,by simp,by omega,hby⟩]
   ·rw [if_neg (by omega),c5 (n:=(x:Int)+(b:Int)) (by omega) (by omega),Int.toNat_natCast]
    have e3:(x:Int)+(b:Int)=((x+b:Nat):Int):=by simp
    rw [e3,aeQ,List.append_assoc,List.singleton_append,key (x+b) (by omega)]
    have e1:dw n b x=x+b:=by grind [dw]
    have e2:(∃z∈x::r,n≤z∧24≤z+b)↔(∃z∈r,n≤z∧24≤z+b):=by
     grind
    simp only [e2,List.map_cons,e1,List.append_assoc,List.singleton_append]
theorem zM (m n j:Nat):(fA m n).testBit j=(m.testBit j&&decide (j<n∧j<24)):=by
 grind [fA,fN]
theorem Fw (m n j:Nat):(cL m n).testBit j=(m.testBit j&&decide (n≤j∧j<24)):=by
 grind [cL,kf,fN]
theorem BH (m n b:Nat):dV m n b=if (∃x∈bz m,n≤x∧24≤x+b) then (0,10) else (bX ((bz m).map (dw n b)),0):=by
 have hnd:((bz m).map (dw n b)).Nodup:=by
  grind [dw,mw]
 have hset: ∀j,(bX ((bz m).map (dw n b))).testBit j=((fA m n).testBit j||(decide (b≤j)&&(cL m n).testBit (j-b))):=by
  intro j
  rw [mm _ hnd,zM,Fw,Bool.eq_iff_iff]
  simp only [decide_eq_true_eq,List.mem_map,mem_bitsN,Bool.or_eq_true,Bool.and_eq_true]
  grind [dw]
 have hhigh: ∀j,(cL m n).testBit j=true↔(j∈bz m∧n≤j):=by
  grind [Fw,mem_bitsN]
 unfold dV
 by_cases h0:cL m n=0
 ·rw [if_pos h0,if_neg]
  ·congr 1
   apply Nat.eq_of_testBit_eq
   grind
  grind
 ·rw [if_neg h0]
  have hex: ∃j,(cL m n).testBit j=true:=by
   apply Classical.byContradiction
   intro hne
   apply h0
   apply Nat.eq_of_testBit_eq
   grind
  have hmul: ∀j,(cL m n*2^b).testBit j=(decide (b≤j)&&(cL m n).testBit (j-b)):=by
   grind
  by_cases h24:24≤b
  ·rw [if_pos h24]
   obtain ⟨j,hj⟩:=hex
   have:=(hhigh j).1 hj
   rw [if_pos ⟨j,this.1,this.2,by omega⟩]
  ·rw [if_neg h24]
   have hlt:=HX (cL m n*2^b)
   by_cases hg:cL m n*2^b>16777215
   ·rw [if_pos hg,if_pos]
    grind
   ·rw [if_neg hg,if_neg]
    ·congr 1
     apply Nat.eq_of_testBit_eq
     grind
    ·rintro ⟨x,h1,h2,h3⟩
     have hx:(cL m n*2^b).testBit (x+b)=true:=by
      simp_all
     grind
theorem ae5 (hk:Fu k) {m:Nat} (hm:m<4294967296) (n b:Nat) (hn:n<9223372036854775808) (hb:b<9223372036854775808) (ret:Int×Int→Option S):
  jF k (m:Int) (n:Int) (b:Int) ret=ret (((dV m n b).1:Int),((dV m n b).2:Int)):=by
 simp only [jF,sZ,aO,ak hk]
 rw [if_neg (by omega),if_neg (by omega),oP hk hm]
 have:=ZI hk ret n b hn hb (bz m) [] k (by grind [fb]) (fun x hx=>(mem_bitsN.1 hx).1) (by grind [fb]) (by simp)
 simp only [List.nil_append] at this
 refine Eq.trans this ?_
 rw [BH]
 split<;>rfl
def iE (m:Nat) (i:Int):Nat:=if 0≤i∧i<24 then fA m i.toNat|||((m&&&M24)/2^(i.toNat+1)*2^i.toNat) else m&&&M24
theorem aeY (hk:Fu k) {m:Nat} (hm:m<4294967296) (i:Int) (ret:Int→Option S):mL k (m:Int) i ret=ret ((iE m i:Nat):Int):=by
 simp only [mL,Oz,x_ hk,ak hk]
 have hand:aV .and .u32 (m:Int) 16777215=((m&&&M24:Nat):Int):=js hm (by decide:(16777215:Nat)<4294967296)
 have hlt:m&&&M24<16777216:=Nat.lt_of_le_of_lt Nat.and_le_right (by decide)
 rw [hand]
 unfold iE
 by_cases h:0≤i∧i<24
 ·obtain ⟨n,rfl⟩: ∃n:Nat,i=n:=⟨i.toNat,by omega⟩
  have hn:n<24:=by omega
  rw [decide_eq_true h,if_pos h,Bool.not_true,ad,NE hk n (by omega)]
  have e1:(n:Int)+1=((n+1:Nat):Int):=by simp
  rw [c5 (by omega) (by omega),e1,gn _ (by omega),gn _ (by omega),gq _ (by omega),gq _ (by omega)]
  rw [Int.toNat_natCast,Int.toNat_natCast,Nat.min_eq_left (show n+1≤32 by omega),Nat.min_eq_left (show n≤32 by omega),AW,zR]
  have hb:2^min n 24-1<4294967296:=by
   have:2^min n 24≤2^24:=Nat.pow_le_pow_right (by decide) (by omega)
   omega
  have hq:(m&&&M24)/2^(n+1)*2^n≤m&&&M24:=by
   have h1:(m&&&M24)/2^(n+1)*2^(n+1)≤m&&&M24:=Nat.div_mul_le_self _ _
   have h2:2^n≤2^(n+1):=Nat.pow_le_pow_right (by decide) (by omega)
   exact Nat.le_trans (Nat.mul_le_mul_left _ h2) h1
  have ec:((((m&&&M24)/2^(n+1):Nat):Int))*((2^n:Nat):Int)=(((m&&&M24)/2^(n+1)*2^n:Nat):Int):=by simp
  rw [ec,jo _ (by omega),js (by omega) hb]
  have hlow:fA m n<4294967296:=by grind [fA,Nat.and_le_left]
  show ret (aV .or .u32 ((fA m n:Nat):Int) _)=_
  rw [tj hlow (by omega)]
 ·rw [decide_eq_false h,if_neg h];rfl
def gJ (i:Int) (x:Nat):Nat:=if 0≤i∧i<(x:Int) then x-1 else x
theorem ZG (hk:Fu k) (ret:Int→Option S) (i:Int):
  ∀ (r p:List Nat) (m:Nat),(p++r).length≤24→(∀x∈r,x<24)→r.length<m→(∀x∈p,x<24)→
  lx k ret i m (ints (p++r)) (p.length:Int)=ret ((bX (p++r.map (gJ i)):Nat):Int):=by
 intro r
 induction r with
 |nil=>
  intro p m hl h24 hm hp
  obtain ⟨m,rfl,hm⟩:=al hm
  simp only [lx,tL,aO,dT,ak hk]
  grind [oQ]
 |cons x r ih=>
  intro p m hl h24 hm hp
  obtain ⟨m,rfl,hm⟩:=al hm
  have hx:=h24 x (by simp)
  have hl':p.length+(r.length+1)≤24:=by grind
  have e0:ints (p++x::r)=ints p++(x:Int)::ints r:=by simp [ints]
  have el:(p.length:Int)=((ints p).length:Int):=by rw [dT]
  simp only [lx,tL,aO,ak hk]
  rw [if_pos (by grind),e0,el,qX]
  simp only [Option.bind_some]
  have ew:IntKind.wrap .i64 (((ints p).length:Int)+1)=(((p++[x]).length:Nat):Int):=by
   grind [c5]
  have key: ∀y:Nat,y<24→lx k ret i m (ints p++(y:Int)::ints r) (((p++[x]).length:Nat):Int)=ret ((bX ((p++[y])++r.map (gJ i)):Nat):Int):=by
   intro y hy
   have:=ih (p++[y]) m (by grind) (fun z hz=>h24 z (by simp [hz])) (by grind) (by
    grind)
   grind [ints]
  rw [ew]
  by_cases hi:i≥0
  ·rw [if_pos hi]
   by_cases hxi:(x:Int)>i<;>grind [c5,Int.toNat_natCast,gJ]
  grind [gJ]
theorem VK (m:Nat) (i:Int):iE m i=bX ((bz (if 0≤i∧i<24 then dc (m&&&M24) (2^i.toNat) else m&&&M24)).map (gJ i)):=by
 unfold iE
 by_cases h:0≤i∧i<24
 ·rw [if_pos h,if_pos h]
  obtain ⟨n,rfl⟩: ∃n:Nat,i=n:=⟨i.toNat,by omega⟩
  have hn:n<24:=by omega
  rw [Int.toNat_natCast]
  have hmem: ∀j,j∈bz (dc (m&&&M24) (2^n))↔(j<24∧m.testBit j=true∧j≠n):=by
   grind [mem_bitsN,kf,fN]
  have hnd:((bz (dc (m&&&M24) (2^n))).map (gJ n)).Nodup:=by
   grind [List.Pairwise.imp_of_mem,mw,gJ]
  apply Nat.eq_of_testBit_eq
  intro j
  rw [mm _ hnd,Nat.testBit_or,zM,Nat.testBit_mul_two_pow,Nat.testBit_div_two_pow,Nat.testBit_and,fN,Bool.eq_iff_iff]
  grind [gJ]
 ·rw [if_neg h,if_neg h]
  have e:(bz (m&&&M24)).map (gJ i)=bz (m&&&M24):=by
   conv=>rhs;rw [←List.map_id (bz (m&&&M24))]
   grind [List.map_congr_left,mem_bitsN,gJ]
  grind [Ds]
theorem ae4 (hk:Fu k) {m:Nat} (hm:m<4294967296) (i:Int) (ret:Int→Option S):mP k (m:Int) i ret=ret ((iE m i:Nat):Int):=by
 simp only [mP,D8,ak hk,sU hk hm]
 have hlt:m&&&M24<4294967296:=Nat.lt_of_le_of_lt Nat.and_le_right (by decide)
 have e:(if 0≤i∧i<24 then ((dc (m&&&M24) (2^i.toNat):Nat):Int) else ((m&&&M24:Nat):Int))=(((if 0≤i∧i<24 then dc (m&&&M24) (2^i.toNat) else m&&&M24):Nat):Int):=by grind
 have hq:(if 0≤i∧i<24 then dc (m&&&M24) (2^i.toNat) else m&&&M24)<4294967296:=by
  split
  ·exact r_ (n:=32) hlt
  omega
 rw [e,oP hk hq,VK]
 generalize (if 0≤i∧i<24 then dc (m&&&M24) (2^i.toNat) else m&&&M24)=q at hq ⊢
 have:=ZG hk ret i (bz q) [] k (by grind [fb]) (fun x hx=>(mem_bitsN.1 hx).1) (by grind [fb]) (by simp)
 simp_all
end Go.Proofs.YtehekgbehghgdaaGreatDoor
namespace Go.Proofs.YtehekgbehghgdaaGreatDoor
open Go PI
set_option linter.unusedVariables false
set_option linter.unusedSimpArgs false
set_option maxRecDepth 20000
variable {S:Type} {k:Nat}
def aH (n:Int):Prop:= -9223372036854775808≤n∧n<9223372036854775808
def mh (s:Int):Bool:=decide (s<16777216)
def bo (s i:Int):Bool:=decide (0≤i∧i<24)&&s.toNat.testBit i.toNat
def eh (s i:Int):Int:=if 0≤i∧i<24 then (((s.toNat&&&M24)|||2^i.toNat:Nat):Int) else ((s.toNat&&&M24:Nat):Int)
def cZ (s i:Int):Int:=if 0≤i∧i<24 then ((dc (s.toNat&&&M24) (2^i.toNat):Nat):Int) else ((s.toNat&&&M24:Nat):Int)
def eV (s:Int):List Int:=ints (bz s.toNat)
def cu (s i b:Int):Int×Int:=if i<0∨b<0 then (0,2) else (((dV s.toNat i.toNat b.toNat).1:Int),((dV s.toNat i.toNat b.toNat).2:Int))
def m7 (s i:Int):Int:=((iE s.toNat i:Nat):Int)
theorem Mz (m:Nat):mh (m:Int)=decide (m<16777216):=by
 grind [mh]
theorem M1 (hk:Fu k) {s:Int} (h:U32 s) (ret:Bool→Option S):mN k s ret=ret (mh s):=by
 obtain ⟨m,hm,rfl⟩:=h.nat
 rw [ae1 hk hm,Mz]
theorem Ns (hk:Fu k) {s:Int} (h:U32 s) (ret:Bool→Option S):mQ k s ret=ret (mh s):=by
 obtain ⟨m,hm,rfl⟩:=h.nat
 rw [ae6 hk hm,Mz]
theorem oL (hk:Fu k) {s:Int} (h:U32 s) (i:Int) (ret:Bool→Option S):fQ k s i ret=ret (bo s i):=by
 obtain ⟨m,hm,rfl⟩:=h.nat
 rw [aeZ hk hm];rfl
theorem gi (hk:Fu k) {s:Int} (h:U32 s) (i:Int) (ret:Bool→Option S):dl k s i ret=ret (bo s i):=by
 obtain ⟨m,hm,rfl⟩:=h.nat
 rw [NF hk hm];rfl
theorem sN (hk:Fu k) {s:Int} (h:U32 s) (i:Int) (ret:Int→Option S):gz k s i ret=ret (eh s i):=by
 obtain ⟨m,hm,rfl⟩:=h.nat
 rw [ae2 hk hm];rfl
theorem aeC (hk:Fu k) {s:Int} (h:U32 s) (i:Int) (ret:Int→Option S):qr k s i ret=ret (eh s i):=by
 obtain ⟨m,hm,rfl⟩:=h.nat
 rw [ae7 hk hm];rfl
theorem sO (hk:Fu k) {s:Int} (h:U32 s) (i:Int) (ret:Int→Option S):iy k s i ret=ret (cZ s i):=by
 obtain ⟨m,hm,rfl⟩:=h.nat
 rw [ae3 hk hm];rfl
theorem xW (hk:Fu k) {s:Int} (h:U32 s) (i:Int) (ret:Int→Option S):fg k s i ret=ret (cZ s i):=by
 obtain ⟨m,hm,rfl⟩:=h.nat
 rw [sU hk hm];rfl
theorem aey (hk:Fu k) {s:Int} (h:U32 s) (ret:List Int→Option S):gA k s ret=ret (eV s):=by
 obtain ⟨m,hm,rfl⟩:=h.nat
 rw [oP hk hm];rfl
theorem Jt {s:Int} (h:U32 s):ol s=eV s:=by
 obtain ⟨m,hm,rfl⟩:=h.nat
 have: ∀i:Nat,(BitVec.ofInt 32 (m:Int)).getLsbD i=m.testBit i:=by
  grind
 simp_all [ol,eV,ints,bz]
theorem MZ (hk:Fu k) {s i b:Int} (h:U32 s) (hi:aH i) (hb:aH b) (ret:Int×Int→Option S):jB k s i b ret=ret (cu s i b):=by
 obtain ⟨m,hm,rfl⟩:=h.nat
 by_cases h1:i<0
 ·grind [jB,ye,aO,cu]
 by_cases h2:b<0
 ·grind [jB,ye,aO,cu]
 obtain ⟨n,rfl⟩: ∃n:Nat,i=n:=⟨i.toNat,by omega⟩
 obtain ⟨c,rfl⟩: ∃n:Nat,b=n:=⟨b.toNat,by omega⟩
 have:=hi.2;have:=hb.2
 grind [ae0,cu]
theorem Np (hk:Fu k) {s i b:Int} (h:U32 s) (hi:aH i) (hb:aH b) (ret:Int×Int→Option S):jF k s i b ret=ret (cu s i b):=by
 obtain ⟨m,hm,rfl⟩:=h.nat
 by_cases h1:i<0
 ·grind [jF,sZ,aO,cu]
 by_cases h2:b<0
 ·grind [jF,sZ,aO,cu]
 obtain ⟨n,rfl⟩: ∃n:Nat,i=n:=⟨i.toNat,by omega⟩
 obtain ⟨c,rfl⟩: ∃n:Nat,b=n:=⟨b.toNat,by omega⟩
 have:=hi.2;have:=hb.2
 grind [ae5,cu]
theorem MY (hk:Fu k) {s:Int} (h:U32 s) (i:Int) (ret:Int→Option S):mL k s i ret=ret (m7 s i):=by
 obtain ⟨m,hm,rfl⟩:=h.nat
 rw [aeY hk hm];rfl
theorem Nn (hk:Fu k) {s:Int} (h:U32 s) (i:Int) (ret:Int→Option S):mP k s i ret=ret (m7 s i):=by
 obtain ⟨m,hm,rfl⟩:=h.nat
 rw [ae4 hk hm];rfl
theorem zU (hk:Fu k) (ret:Int→Option S):jA k 0 ret=ret 0:=by
 simp only [jA,D7,ak hk];rfl
theorem zV (hk:Fu k) (ret:Int→Option S): ∀n:Nat,n<24→jA k ((2^n:Nat):Int) ret=ret 1:=by
 simp only [jA,D7,ak hk]
 intro n hn
 match n,hn with
 |0,_|1,_|2,_|3,_|4,_|5,_|6,_|7,_|8,_|9,_|10,_|11,_|12,_|13,_|14,_|15,_|16,_|17,_|18,_|19,_|20,_|21,_|22,_|23,_=>rfl
 |n+24,h=>omega
theorem yp (i:Int):eh 0 i=if 0≤i∧i<24 then ((2^i.toNat:Nat):Int) else 0:=by
 grind [eh]
theorem adS (hk:Fu k) (i:Int) (ret:Bool→Option S):uO k i ret=ret (decide (0≤i∧i<24)):=by
 simp only [uO,NV,ak hk,sN hk (s:=0) ⟨by omega,by omega⟩,yp]
 grind [zV,zU]
theorem adT (hk:Fu k) (i:Int) (ret:Bool→Option S):uV k i ret=ret (decide (0≤i∧i<24)):=by
 simp only [uV,Oa,ak hk,sN hk (s:=0) ⟨by omega,by omega⟩,yp]
 grind [zV,zU]
theorem U32.of {n:Nat} (h:n<4294967296):U32 (n:Int):=⟨by omega,by omega⟩
theorem withS_lt {s i:Int}:0≤eh s i∧eh s i<16777216:=by
 have h1:s.toNat&&&M24<16777216:=Nat.lt_of_le_of_lt Nat.and_le_right (by decide)
 unfold eh
 split
 ·next h=>
  have hp:2^i.toNat<2^24:=Nat.pow_lt_pow_right (by decide) (by omega)
  have:=Nat.or_lt_two_pow (n:=24) h1 hp
  omega
 ·omega
theorem E6 {s i:Int}:0≤cZ s i∧cZ s i<16777216:=by
 have h1:s.toNat&&&M24<16777216:=Nat.lt_of_le_of_lt Nat.and_le_right (by decide)
 unfold cZ
 split
 ·have:=r_ (n:=24) (b:=2^i.toNat) h1
  omega
 ·omega
theorem VL (m:Nat) (i:Int):iE m i<16777216:=by
 have h1:m&&&M24<16777216:=Nat.lt_of_le_of_lt Nat.and_le_right (by decide)
 unfold iE
 split
 ·rw [HX]
  grind [zM,fN]
 omega
deriving instance DecidableEq for Cl
theorem Cl.ext' {a b:Cl} (h1:a.pos=b.pos) (h2:a.neg=b.neg):a=b:=by cases a<;>simp_all
theorem jt (a b:Cl):((a.pos==b.pos)&&((a.neg==b.neg)&&true))=decide (a=b):=by
 grind [Cl.ext']
def aM (c:Cl):Prop:=U32 c.pos∧U32 c.neg
def am (f:List Cl):Prop:= ∀c∈f,aM c
def eH (c:Cl):Bool:=mh c.pos&&mh c.neg
def RC (c:Cl):Prop:=(0≤c.pos∧c.pos<16777216)∧(0≤c.neg∧c.neg<16777216)
theorem RC.ok {c:Cl} (h:RC c):aM c:=⟨⟨h.1.1,by have:=h.1.2;omega⟩,⟨h.2.1,by have:=h.2.2;omega⟩⟩
theorem xL {c:Cl} (h:aM c):eH c=true↔RC c:=by
 unfold eH mh RC
 simp only [Bool.and_eq_true,decide_eq_true_eq]
 have h1:=h.1.1;have h2:=h.2.1
 omega
def dN (a b:Int):Int:=((a.toNat|||b.toNat:Nat):Int)
theorem ov {a b:Int} (ha:U32 a) (hb:U32 b):aV .or .u32 a b=dN a b:=by
 obtain ⟨m,hm,rfl⟩:=ha.nat;obtain ⟨n,hn,rfl⟩:=hb.nat
 rw [tj hm hn];rfl
def dE (a b:Cl):Cl:=⟨dN a.pos b.pos,dN a.neg b.neg⟩
def di (a b:Cl):Bool:=decide (dE a b=a)
def bu (c:Cl):Bool:= !decide (c.pos.toNat&&&c.neg.toNat=0)
theorem Cj {a b:Int} (ha:U32 a) (hb:U32 b):U32 (dN a b):=by
 obtain ⟨m,hm,rfl⟩:=ha.nat;obtain ⟨n,hn,rfl⟩:=hb.nat
 exact U32.of (Nat.or_lt_two_pow (n:=32) hm hn)
theorem JS {a b:Int} (ha:0≤a∧a<16777216) (hb:0≤b∧b<16777216):0≤dN a b∧dN a b<16777216:=by
 unfold dN
 have:=Nat.or_lt_two_pow (n:=24) (x:=a.toNat) (y:=b.toNat) (by omega) (by omega)
 omega
theorem wN {a b:Cl} (ha:aM a) (hb:aM b):aM (dE a b):=⟨Cj ha.1 hb.1,Cj ha.2 hb.2⟩
theorem Jw {a b:Cl} (ha:RC a) (hb:RC b):RC (dE a b):=⟨JS ha.1 hb.1,JS ha.2 hb.2⟩
theorem M5 (hk:Fu k) {c:Cl} (h:aM c) (ret:Bool→Option S):qb k c ret=ret (eH c):=by
 simp only [qb,NU,ak hk,M1 hk h.1,M1 hk h.2,eH,b9]
 grind
theorem Nl (hk:Fu k) {c:Cl} (h:aM c) (ret:Bool→Option S):qw k c ret=ret (eH c):=by
 simp only [qw,OX,ak hk,Ns hk h.1,Ns hk h.2,eH,b9]
 grind
theorem Dg (hk:Fu k) {a b:Cl} (ha:aM a) (hb:aM b) (ret:Cl→Option S):mD k a b ret=ret (dE a b):=by
 simp only [mD,NT,ov ha.1 hb.1,ov ha.2 hb.2];rfl
theorem adP (hk:Fu k) {a b:Cl} (ha:aM a) (hb:aM b) (ret:Bool→Option S):uK k a b ret=ret (di a b):=by
 simp only [uK,NO,ak hk,Dg hk ha hb,jt];rfl
theorem aej (hk:Fu k) {a b:Cl} (ha:aM a) (hb:aM b) (ret:Bool→Option S):vi k a b ret=ret (di a b):=by
 have e:di a b=((dN a.pos b.pos==a.pos)&&((dN a.neg b.neg==a.neg)&&true)):=(jt (dE a b) a).symm
 simp only [vi,OT,ov ha.1 hb.1,ov ha.2 hb.2,b9,e]
 grind
theorem M4 (hk:Fu k) {c:Cl} (h:aM c) (ret:Bool→Option S):p_ k c ret=ret (bu c):=by
 obtain ⟨p,n⟩:=c
 obtain ⟨m,hm,rfl⟩:=h.1.nat;obtain ⟨n,hn,rfl⟩:=h.2.nat
 simp only [p_,NP,js hm hn,bu,Int.toNat_natCast]
 congr 2
 grind
open Classical in
theorem ZF (hk:Fu k) {c:Cl} (h:aM c) (ret:Bool→Option S): ∀ (d i m:Nat),i+d=24→d<m→
  nI k ret c m (i:Int)=ret (decide (∃j,i≤j∧j<24∧c.pos.toNat.testBit j=true∧c.neg.toNat.testBit j=true)):=by
 intro d
 induction d with
 |zero=>
  intro i m e hm
  obtain ⟨m,rfl,hm⟩:=al hm
  simp only [nI,tQ,aO]
  rw [if_neg (by omega),decide_eq_false]
  rintro ⟨j,h1,h2,_⟩;omega
 |succ d ih=>
  intro i m e hm
  obtain ⟨m,rfl,hm⟩:=al hm
  have e2:(i:Int)+1=((i+1:Nat):Int):=by simp
  simp only [nI,tQ,ak hk,gi hk h.1,gi hk h.2,b9,decide_eq_true_eq]
  rw [if_pos (by omega),c5 (by omega) (by omega),e2,ih (i+1) m (by omega) (by omega)]
  have hp:bo c.pos (i:Int)=c.pos.toNat.testBit i:=by unfold bo;rw [decide_eq_true (by omega),Bool.true_and];rfl
  have hn:bo c.neg (i:Int)=c.neg.toNat.testBit i:=by unfold bo;rw [decide_eq_true (by omega),Bool.true_and];rfl
  rw [hp,hn]
  have step: ¬(c.pos.toNat.testBit i=true∧c.neg.toNat.testBit i=true)→((∃j,i+1≤j∧j<24∧c.pos.toNat.testBit j=true∧c.neg.toNat.testBit j=true)↔(∃j,i≤j∧j<24∧c.pos.toNat.testBit j=true∧c.neg.toNat.testBit j=true)):=by
   intro hne
   constructor
   ·rintro ⟨j,a,b⟩;exact ⟨j,by omega,b⟩
   ·rintro ⟨j,a,b⟩
    refine ⟨j, ?_,b⟩
    have:j≠i:=by rintro rfl;exact hne b.2
    omega
  by_cases h1:c.pos.toNat.testBit i=true
  ·by_cases h2:c.neg.toNat.testBit i=true
   ·rw [if_pos h1,if_pos h2,decide_eq_true]
    exact ⟨i,by omega,by omega,h1,h2⟩
   ·rw [if_pos h1,if_neg h2];simp only [step (fun h=>h2 h.2)]
  ·rw [if_neg h1];simp only [step (fun h=>h1 h.1)]
theorem Nj (hk:Fu k) {c:Cl} (h:RC c) (ret:Bool→Option S):qu k c ret=ret (bu c):=by
 simp only [qu,Ec]
 have:=ZF hk h.ok ret 24 0 k (by omega) (by omega)
 refine Eq.trans this ?_
 congr 1
 rw [bu,Bool.eq_iff_iff]
 simp only [decide_eq_true_eq,Bool.not_eq_true',decide_eq_false_iff_not]
 constructor
 ·rintro ⟨j,_,_,h1,h2⟩ h0
  have:(c.pos.toNat&&&c.neg.toNat).testBit j=true:=by grind
  grind
 ·intro h0
  apply Classical.byContradiction
  intro hne
  apply h0
  apply Nat.eq_of_testBit_eq
  intro j
  rw [Nat.zero_testBit,Nat.testBit_and]
  cases h1:c.pos.toNat.testBit j with
  |false=>rfl
  |true=>
   cases h2:c.neg.toNat.testBit j with
   |false=>rfl
   |true=>
    have hlt:c.pos.toNat<16777216:=by have:=h.1;omega
    exact absurd ⟨j,by omega,my hlt h1,h1,h2⟩ hne
theorem agh (s:Int) (x:Nat) (hx:x<24) (j:Nat):(eh s (x:Int)).toNat.testBit j=((s.toNat.testBit j&&decide (j<24))||decide (j=x)):=by
 unfold eh
 rw [if_pos (by omega),Int.toNat_natCast,Int.toNat_natCast,Nat.testBit_or,Nat.testBit_and,fN,Nat.testBit_two_pow,Bool.eq_iff_iff]
 grind
theorem aa5 (hk:Fu k) (ret:Int→Option S): ∀ (r p:List Nat) (m:Nat) (a:Int),(p++r).length≤24→(∀x∈r,x<24)→r.length<m→U32 a→
  ∃v:Int,U32 v∧(∀j,v.toNat.testBit j=((a.toNat.testBit j&&(decide (r=[])||decide (j<24)))||decide (j∈r)))∧nM k ret (ints (p++r)) m a (p.length:Int)=ret v:=by
 intro r
 induction r with
 |nil=>
  grind [al,nM,tU,aO,dT]
 |cons x r ih=>
  intro p m a hl h24 hm ha
  obtain ⟨m,rfl,hm⟩:=al hm
  have hx:=h24 x (by simp)
  have hl':p.length+(r.length+1)≤24:=by grind
  have hu:U32 (eh a (x:Int)):=⟨withS_lt.1,by have:=(withS_lt (s:=a) (i:=(x:Int))).2;omega⟩
  obtain ⟨v,hv,hb,hr⟩:=ih (p++[x]) m (eh a (x:Int)) (by grind) (fun z hz=>h24 z (by simp [hz])) (by grind) hu
  refine ⟨v,hv,fun j=> ?_, ?_⟩
  ·grind [agh]
  ·have e0:ints (p++x::r)=ints p++(x:Int)::ints r:=by simp [ints]
   have el:(p.length:Int)=((ints p).length:Int):=by rw [dT]
   simp only [nM,tU,aO,ak hk]
   rw [if_pos (by grind),e0,el,qX]
   simp only [Option.bind_some,aeC hk ha]
   have ew:IntKind.wrap .i64 (((ints p).length:Int)+1)=(((p++[x]).length:Nat):Int):=by
    rw [dT,c5 (by omega) (by omega)];simp
   grind
theorem Nw (hk:Fu k) {a b:Int} (ha:0≤a∧a<16777216) (hb:0≤b∧b<16777216) (ret:Int→Option S):qx k a b ret=ret (dN a b):=by
 have ha':U32 a:=⟨ha.1,by omega⟩
 have hb':U32 b:=⟨hb.1,by omega⟩
 simp only [qx,Ef,ak hk,aey hk hb',eV]
 obtain ⟨v,hv,hbit,hr⟩:=aa5 hk ret (bz b.toNat) [] k a (by grind [fb]) (fun x hx=>(mem_bitsN.1 hx).1) (by grind [fb]) ha'
 refine Eq.trans hr ?_
 congr 1
 have:v.toNat=a.toNat|||b.toNat:=by
  apply Nat.eq_of_testBit_eq
  intro j
  rw [hbit,Nat.testBit_or,Bool.eq_iff_iff]
  simp only [Bool.or_eq_true,Bool.and_eq_true,decide_eq_true_eq,mem_bitsN]
  constructor
  ·grind
  ·rintro (h|h)
   ·exact .inl ⟨h,.inr (my (m:=a.toNat) (by omega) h)⟩
   ·exact .inr ⟨my (m:=b.toNat) (by omega) h,h⟩
 have hv0:=hv.1
 unfold dN
 omega
theorem Nk (hk:Fu k) {a b:Cl} (ha:RC a) (hb:RC b) (ret:Cl→Option S):qv k a b ret=ret (dE a b):=by
 simp only [qv,OW,ak hk,Nw hk ha.1 hb.1,Nw hk ha.2 hb.2];rfl
def cX (c:Cl) (i b:Int):Cl×Int:=
 if eH c then
  if (cu c.pos i b).2=0 then if (cu c.neg i b).2=0 then (⟨(cu c.pos i b).1,(cu c.neg i b).1⟩,0) else (⟨0,0⟩,(cu c.neg i b).2)
  else (⟨0,0⟩,(cu c.pos i b).2)
 else (⟨0,0⟩,2)
theorem adQ (hk:Fu k) {c:Cl} {i b:Int} (h:aM c) (hi:aH i) (hb:aH b) (ret:Cl×Int→Option S):uN k c i b ret=ret (cX c i b):=by
 simp only [uN,NS,ak hk,M5 hk h,MZ hk h.1 hi hb,MZ hk h.2 hi hb,b9,cX,Bool.not_eq_true',beq_eq_false_iff_ne]
 grind
theorem aek (hk:Fu k) {c:Cl} {i b:Int} (h:aM c) (hi:aH i) (hb:aH b) (ret:Cl×Int→Option S):vk k c i b ret=ret (cX c i b):=by
 simp only [vk,OV,ak hk,Nl hk h,Np hk h.1 hi hb,Np hk h.2 hi hb,b9,cX,Bool.not_eq_true',beq_eq_false_iff_ne]
 grind
end Go.Proofs.YtehekgbehghgdaaGreatDoor
namespace Go.Proofs.YtehekgbehghgdaaGreatDoor
open Go PI
set_option linter.unusedVariables false
set_option linter.unusedSimpArgs false
set_option maxRecDepth 20000
variable {S:Type} {k:Nat}
def fB (a b:Cl):Prop:=a.pos<b.pos∨(a.pos=b.pos∧a.neg<b.neg)
def oi (a b:Cl):Bool:=decide (a.pos<b.pos)||(a.pos==b.pos&&decide (a.neg<b.neg))
theorem abd {a b:Cl}:oi a b=true↔fB a b:=by unfold oi fB;simp
theorem HZ {a b c:Cl} (h:fB a b) (h':fB b c):fB a c:=by grind [fB]
theorem HY {a:Cl} (h:fB a a):False:=by grind [fB]
theorem abA (a b:Cl):fB a b∨a=b∨fB b a:=by
 grind [Cl.ext',fB]
abbrev jr (l:List Cl):Prop:=l.Pairwise fB
theorem xZ: ∀ {a b:List Cl},jr a→jr b→(∀c,c∈a↔c∈b)→a=b:=by
 intro a
 induction a with
 |nil=>
  intro b _ _ h
  cases b with
  |nil=>rfl
  |cons y b=>exact absurd ((h y).2 (by simp)) (by simp)
 |cons x a ih=>
  intro b ha hb h
  cases b with
  |nil=>grind
  |cons y b=>
   have ha':=List.pairwise_cons.1 ha;have hb':=List.pairwise_cons.1 hb
   have hxy:x=y:=by
    rcases List.mem_cons.1 ((h x).1 (by simp)) with h1|h1
    ·exact h1
    ·rcases List.mem_cons.1 ((h y).2 (by simp)) with h2|h2<;>grind [HZ,HY]
   grind [HY]
def eB (x:Cl):List Cl→List Cl
 |[]=>[x]
 |y::r=>if oi y x then y::eB x r else if y=x then y::r else x::y::r
theorem Jy {x c:Cl}: ∀ {l:List Cl},c∈eB x l↔c=x∨c∈l:=by
 intro l
 induction l<;>grind [eB]
theorem YN {x:Cl}: ∀ {l:List Cl},jr l→jr (eB x l):=by
 intro l
 induction l<;>grind [eB,List.pairwise_cons,Jy,abd,abA,HZ]
theorem Hj {x:Cl}: ∀ {l:List Cl},(eB x l).length≤l.length+1:=by
 intro l
 induction l<;>grind [eB]
def bK (l:List Cl) (c:Cl):Bool:=l.all fun d=>decide (d=c)|| !di c d
def iQ (o l:List Cl):List Cl:=l.foldl (fun o c=>eB c o) o
def cY (l:List Cl):List Cl:=iQ [] (l.filter (bK l))
theorem abH {c:Cl}: ∀ {l o:List Cl},c∈iQ o l↔c∈l∨c∈o:=by
 intro l
 induction l with
 |nil=>grind [iQ]
 |cons x l ih=>
  intro o
  show c∈iQ (eB x o) l↔_
  grind [Jy]
theorem YM: ∀ {l o:List Cl},jr o→jr (iQ o l):=by
 intro l
 induction l with
 |nil=>intro o h;exact h
 |cons x l ih=>intro o h;exact ih (YN h)
theorem YL: ∀ {l o:List Cl},(iQ o l).length≤o.length+l.length:=by
 intro l
 induction l<;>grind [iQ,Hj]
theorem om (l:List Cl):jr (cY l):=YM List.Pairwise.nil
theorem mem_mins {l:List Cl} {c:Cl}:c∈cY l↔c∈l∧bK l c=true:=by
 grind [cY,abH]
theorem Jz (l:List Cl):(cY l).length≤l.length:=by
 grind [YL,cY]
theorem JF {l l':List Cl} (h: ∀c,c∈l↔c∈l') (c:Cl):bK l c=bK l' c:=by
 grind [bK]
theorem abJ {l l':List Cl} (h: ∀c,c∈l↔c∈l'):cY l=cY l':=
 xZ (om l) (om l') fun c=>by grind [mem_mins,JF]
def aY (l:List Cl):List Cl×Int:=if l.all eH then if (cY l).length>64 then ([],3) else (cY l,0) else ([],2)
theorem aba {l l':List Cl} (h: ∀c,c∈l↔c∈l'):aY l=aY l':=by
 grind [aY,abJ]
theorem adG (hk:Fu k) (a b:Cl) (ret:Bool→Option S):vj k a b ret=ret (oi a b):=by
 grind [vj,OU,b9,oi]
theorem aam (hk:Fu k) (ret:Bool→Option S) {c:Cl} (hc:aM c) {l:List Cl} (hl:am l) (hlen:l.length<4294967296):
  ∀ (r p:List Cl) (m:Nat),l=p++r→r.length<m→nL k ret c l m (p.length:Int)=ret (bK r c):=by
 intro r
 induction r with
 |nil=>
  intro p m h hm
  obtain ⟨m,rfl,hm'⟩:=al hm
  simp only [nL,tT,cv h,ad];rfl
 |cons x r ih=>
  intro p m h hm
  obtain ⟨m,rfl,hm'⟩:=al hm
  obtain ⟨e1,e2,e3,e4⟩:=ay h (by omega)
  have hx:aM x:=hl x (by grind)
  grind [nL,tT,jt,b9,bK,ak,aej]
theorem aea (hk:Fu k) {c:Cl} (hc:aM c) {l:List Cl} (hl:am l) (hlen:l.length<4294967296) (ret:Bool→Option S):vl k l c ret=ret (bK l c):=by
 simp only [vl,Ee]
 exact aam hk ret hc hl hlen l [] k rfl (by omega)
theorem uG {S:Type} {p:Prop} [Decidable p] (h:p) (f:Unit→Option S):Option.bind (bw p) f=f ():=gq p h f
theorem aar (hk:Fu k) (ret:List Cl×Int→Option S) (rec1:List Cl→Int→Option S) {l:List Cl} {x:Cl} {i:Int} (hx:ae l i=some x) {out:List Cl} (hout:out.length<4294967296):
  ∀ (r p:List Cl) (m:Nat),out=p++r→r.length<m→lz k ret rec1 l out i m (p.length:Int)=rec1 (p++eB x r) (IntKind.wrap .i64 (i+1)):=by
 intro r
 induction r with
 |nil=>
  intro p m h hm
  obtain ⟨m,rfl,hm'⟩:=al hm
  have hp:out=p:=by grind
  subst hp
  have e:(((out.length:Int))==((out.length:Int)))=true:=by simp
  simp only [lz,tR,cv h,ad,e,ai]
  grind [uG,aL,eB]
 |cons y r ih=>
  intro p m h hm
  obtain ⟨m,rfl,hm'⟩:=al hm
  obtain ⟨e1,e2,e3,e4⟩:=ay h (by omega)
  have hpl:p.length<out.length:=by grind
  have e:(((p.length:Int))==((out.length:Int)))=false:=by
   grind
  have:=ih (p++[y]) m e4 hm'
  simp only [lz,tR,e1,ai,e2,hx,Option.bind_some,ak hk,adG hk,e,ad,jt]
  rw [e3,this]
  cases hb:oi y x with
  |true=>grind [ai,eB]
  |false=>
   rw [ad,eB,if_neg (by grind)]
   by_cases hyx:y=x<;>grind [ad,ai,uG,aL]
theorem aaq (hk:Fu k) (ret:List Cl×Int→Option S) {l:List Cl} (hl:am l) (hlen:l.length<2147483648):
  ∀ (r p:List Cl) (m:Nat) (o:List Cl),l=p++r→r.length<m→o.length≤p.length→
  iV k ret l m o (p.length:Int)=ret (if (iQ o (r.filter (bK l))).length>64 then ([],3) else (iQ o (r.filter (bK l)),0)):=by
 intro r
 induction r with
 |nil=>
  intro p m o h hm ho
  obtain ⟨m,rfl,hm'⟩:=al hm
  simp only [iV,pw,cv h,ad,aO]
  show _=ret (if o.length>64 then _ else (o,0))
  grind
 |cons x r ih=>
  intro p m o h hm ho
  obtain ⟨m,rfl,hm'⟩:=al hm
  obtain ⟨e1,e2,e3,e4⟩:=ay h (by omega)
  have hx:aM x:=hl x (by grind)
  have hk':4294967296≤k:=hk
  have hpl:p.length<l.length:=by grind
  simp only [iV,pw,e1,ai,e2,Option.bind_some,ak hk,aea hk hx hl (by omega)]
  have hplace:=aar hk ret (iV k ret l m) e2 (out:=o) (by omega) o [] k rfl (by omega)
  simp only [List.length_nil,List.nil_append] at hplace
  rw [show (0:Int)=((0:Nat):Int) from rfl,hplace,e3]
  cases hn:bK l x with
  |true=>
   rw [Bool.not_true,ad,List.filter_cons_of_pos hn]
   exact ih (p++[x]) m (eB x o) e4 hm' (by grind [Hj])
  |false=>
   rw [Bool.not_false,ai,List.filter_cons_of_neg (by grind)]
   grind
theorem aaL (hk:Fu k) (ret:List Cl×Int→Option S) {l:List Cl} (hl:am l) (hlen:l.length<2147483648):
  ∀ (r p:List Cl) (m:Nat),l=p++r→r.length<m→
  nJ k ret l m (p.length:Int)=ret (if r.all eH then if (cY l).length>64 then ([],3) else (cY l,0) else ([],2)):=by
 intro r
 induction r with
 |nil=>
  intro p m h hm
  obtain ⟨m,rfl,hm'⟩:=al hm
  simp only [nJ,pu,cv h,ad,List.all_nil,if_true]
  have hk':4294967296≤k:=hk
  exact aaq hk ret hl hlen l [] k [] rfl (by omega) (by simp)
 |cons x r ih=>
  intro p m h hm
  obtain ⟨m,rfl,hm'⟩:=al hm
  obtain ⟨e1,e2,e3,e4⟩:=ay h (by omega)
  have hx:aM x:=hl x (by grind)
  grind [nJ,pu,ai,ak,Nl,ad]
theorem mj (hk:Fu k) {l:List Cl} (hl:am l) (hlen:l.length<2147483648) (ret:List Cl×Int→Option S):gD k l ret=ret (aY l):=by
 simp only [gD,Ed]
 exact aaL hk ret hl hlen l [] k rfl (by omega)
theorem adF (hk:Fu k) {d c:Cl} (hd:aM d) (hc:aM c) (ret:Bool→Option S):uM k d c ret=ret (!(decide (d=c)|| !di c d)):=by
 grind [uM,NR,jt,b9,ak,adP,di]
end Go.Proofs.YtehekgbehghgdaaGreatDoor
namespace Go.Proofs.YtehekgbehghgdaaGreatDoor
open Go PI
set_option linter.unusedVariables false
set_option linter.unusedSimpArgs false
set_option maxRecDepth 20000
variable {S:Type} {k:Nat}
theorem aab (hk:Fu k) (ret:Int→Option S) {c:Cl} (hc:aM c) {l:List Cl} (hl:am l) (hlen:l.length<2147483648):
  ∀ (r p:List Cl) (m:Nat),l=p++r→r.length<m→ ∃v:Int,decide (v≥0)= !bK r c∧n5 k ret c l m (p.length:Int)=ret v:=by
 intro r
 induction r with
 |nil=>
  intro p m h hm
  obtain ⟨m,rfl,hm'⟩:=al hm
  exact ⟨-1,rfl,by grind [n5,ur,ad]⟩
 |cons x r ih=>
  intro p m h hm
  obtain ⟨m,rfl,hm'⟩:=al hm
  obtain ⟨e1,e2,e3,e4⟩:=ay h (by omega)
  have hx:aM x:=hl x (by grind)
  obtain ⟨v,hv,hr⟩:=ih (p++[x]) m e4 hm'
  have e0:bK (x::r) c=((decide (x=c)|| !di c x)&&bK r c):=by rfl
  grind [n5,ur,ai,ak,adF,decide,di,ad]
theorem aeb (hk:Fu k) {c:Cl} (hc:aM c) {l:List Cl} (hl:am l) (hlen:l.length<2147483648) (ret:Bool→Option S):uL k c l ret=ret (!bK l c):=by
 obtain ⟨v,hv,hr⟩:=aab hk (fun r1:Int=>ret (decide (r1≥0))) hc hl hlen l [] k rfl (by omega)
 grind [uL,NQ,Ao,Pm,Aq,EJ,ak]
theorem aae (hk:Fu k) (ret:List Cl×Int→Option S) {l:List Cl} (hl:am l) (hlen:l.length<2147483648):
  ∀ (r p:List Cl) (m:Nat) (q:List Cl),l=p++r→r.length<m→q.length≤p.length→
  lq k ret l m (p.length:Int) q=ret (if (q++r.filter (bK l)).length>64 then ([],3) else (sortCl (q++r.filter (bK l)),0)):=by
 intro r
 induction r with
 |nil=>
  grind [al,lq,tk,aO]
 |cons x r ih=>
  intro p m q h hm hq
  obtain ⟨m,rfl,hm'⟩:=al hm
  obtain ⟨e1,e2,e3,e4⟩:=ay h (by omega)
  have hx:aM x:=hl x (by grind)
  have hpl:p.length<l.length:=by grind
  simp only [lq,tk,e1,ai,e2,Option.bind_some,ak hk,aeb hk hx hl hlen,Bool.not_not]
  rw [e3]
  cases hn:bK l x with
  |true=>
   rw [ai,aL (by grind),List.filter_cons_of_pos hn,ih (p++[x]) m (q++[x]) e4 hm' (by grind)]
   simp
  |false=>
   rw [ad,List.filter_cons_of_neg (by grind)]
   grind
theorem vX (a b:Cl):d8 VV ET.C a b=decide (a=b):=by
 have e:d8 VV ET.C a b=((a.pos==b.pos)&&((a.neg==b.neg)&&true)):=by
  rfl
 rw [e,jt]
theorem abI (l:List (Cl×Bool)) (x y:Cl):dr VV ET.C (eC VV ET.C l x true) y=if x=y then some true else dr VV ET.C l y:=by
 induction l with
 |nil=>
  show (bif d8 VV ET.C x y then some true else .none)=_
  simp_all [vX,dr]
 |cons a r ih=>
  obtain ⟨z,b⟩:=a
  show dr VV ET.C (bif d8 VV ET.C z x then (z,true)::r else (z,b)::eC VV ET.C r x true) y=_
  rw [vX]
  by_cases h:z=x
  ·subst h
   rw [decide_eq_true rfl,cond_true]
   show (bif d8 VV ET.C z y then some true else dr VV ET.C r y)=if z=y then some true else (bif d8 VV ET.C z y then some b else dr VV ET.C r y)
   grind [vX]
  ·rw [decide_eq_false h,cond_false]
   show (bif d8 VV ET.C z y then some b else dr VV ET.C (eC VV ET.C r x true) y)=if x=y then some true else (bif d8 VV ET.C z y then some b else dr VV ET.C r y)
   grind [vX]
theorem aeT {l o:List Cl} (hn:o.Nodup) (h: ∀c,c∈o↔c∈l):sortCl (o.filter (bK o))=cY l∧(o.filter (bK o)).length=(cY l).length:=by
 have hp:(sortCl (o.filter (bK o))).Perm (o.filter (bK o)):=List.mergeSort_perm _ _
 have hs:(sortCl (o.filter (bK o))).Pairwise (fun a b=>jv a b=true):=
  List.pairwise_mergeSort (le:=jv) (fun a b c h1 h2=>by
   grind [jv]) (fun a b=>by
   grind [jv]) _
 have hnd:(sortCl (o.filter (bK o))).Nodup:=hp.nodup_iff.2 (hn.filter _)
 have hsorted:jr (sortCl (o.filter (bK o))):=by
  refine (hs.and hnd).imp fun {a b} h=> ?_
  have h1:=h.1
  unfold jv at h1
  simp only [Bool.or_eq_true,Bool.and_eq_true,decide_eq_true_eq,beq_iff_eq] at h1
  rcases h1 with h1|h1
  ·exact .inl h1
  ·refine .inr ⟨h1.1, ?_⟩
   grind [Cl.ext']
 have he:sortCl (o.filter (bK o))=cY l:=xZ hsorted (om l) fun c=>by
  grind [mem_mins,JF]
 exact ⟨he,by rw [←he,hp.length_eq]⟩
theorem aa3 (hk:Fu k) (ret:List Cl×Int→Option S) {l:List Cl} (hl:am l) (hlen:l.length<2147483648):
  ∀ (r p:List Cl) (m:Nat) (q:List (Cl×Bool)) (o:List Cl),l=p++r→r.length<m→o.length≤p.length→o.Nodup→(∀c:Cl,(dr VV ET.C q c).getD false=decide (c∈o))→(∀c,c∈o↔c∈p)→
  nq k ret l m q o (p.length:Int)=ret (if r.all eH then if (cY l).length>64 then ([],3) else (cY l,0) else ([],2)):=by
 intro r
 induction r with
 |nil=>
  intro p m q o h hm ho hnd hq hmem
  obtain ⟨m,rfl,hm'⟩:=al hm
  have hp:l=p:=by grind
  subst hp
  have hol:am o:=fun c hc=>hl c ((hmem c).1 hc)
  have hk':4294967296≤k:=hk
  simp only [nq,pk,cv h,ad,List.all_nil,if_true]
  have:=aae hk ret hol (by omega) o [] k [] rfl (by omega) (by simp)
  grind [aeT]
 |cons x r ih=>
  intro p m q o h hm ho hnd hq hmem
  obtain ⟨m,rfl,hm'⟩:=al hm
  obtain ⟨e1,e2,e3,e4⟩:=ay h (by omega)
  have hx:aM x:=hl x (by grind)
  have hpl:p.length<l.length:=by grind
  simp only [nq,pk,e1,ai,e2,Option.bind_some,ak hk,M5 hk hx]
  rw [hq,e3]
  by_cases hr:eH x=true
  ·have:(x::r).all eH=r.all eH:=by grind
   rw [hr,Bool.not_true,ad,this]
   by_cases hxo:x∈o
   ·grind [ad]
   ·rw [decide_eq_false hxo,Bool.not_false,ai,aL (by grind)]
    refine ih (p++[x]) m _ (o++[x]) e4 hm' (by grind) (List.nodup_append.2 ⟨hnd,by simp,fun a ha b hb=>by grind⟩) (fun c=> ?_) fun c=> ?_
    all_goals grind [abI]
  grind [ai]
theorem jj (hk:Fu k) {l:List Cl} (hl:am l) (hlen:l.length<2147483648) (ret:List Cl×Int→Option S):ff k l ret=ret (aY l):=by
 simp only [ff,DB]
 exact aa3 hk ret hl hlen l [] k [] [] rfl (by omega) (by simp) List.nodup_nil (fun c=>by rfl) (fun c=>Iff.rfl)
theorem ZH (hk:Fu k) (ret:Bool→Option S) {a b:List Cl} (hlen:a.length<4294967296):
  ∀ (r s p q:List Cl) (m:Nat),a=p++r→b=q++s→p.length=q.length→r.length=s.length→r.length<m→n4 k ret a b m (p.length:Int)=ret (decide (r=s)):=by
 intro r
 induction r with
 |nil=>
  grind [al,n4,uq,ad]
 |cons x r ih=>
  intro s p q m h h' hpq hrs hm
  obtain ⟨m,rfl,hm'⟩:=al hm
  cases s with
  |nil=>cases hrs
  |cons y s=>
   obtain ⟨e1,e2,e3,e4⟩:=ay h (by omega)
   have e2':ae b (p.length:Int)=some y:=by grind [qX]
   simp only [n4,uq,e1,ai,e2,e2',Option.bind_some,jt,e3]
   rw [ih s (p++[x]) (q++[y]) m e4 (by grind) (by simp_all) (by grind) hm']
   by_cases hxy:x=y<;>simp_all [ad,ai]
theorem adC (hk:Fu k) {a b:List Cl} (hlen:a.length<4294967296) (ret:Bool→Option S):vF k a b ret=ret (decide (a=b)):=by
 simp only [vF,EI]
 by_cases h:a.length=b.length
 ·have e:((a.length:Int)==(b.length:Int))=true:=by simp [h]
  rw [e,Bool.not_true,ad]
  exact ZH hk ret hlen a b [] [] k rfl rfl rfl h (by omega)
 ·have e:((a.length:Int)==(b.length:Int))=false:=by grind
  rw [e,Bool.not_false,ai,decide_eq_false]
  grind
theorem ZK (hk:Fu k) (ret:Bool→Option S) {a b:List Cl} (hlen:a.length<4294967296):
  ∀ (r s p q:List Cl) (m:Nat),a=p++r→b=q++s→p.length=q.length→r.length=s.length→r.length<m→iW k ret a b m (p.length:Int)=ret (decide (r=s)):=by
 intro r
 induction r with
 |nil=>
  grind [al,iW,mt,ad]
 |cons x r ih=>
  intro s p q m h h' hpq hrs hm
  obtain ⟨m,rfl,hm'⟩:=al hm
  cases s with
  |nil=>cases hrs
  |cons y s=>
   obtain ⟨e1,e2,e3,e4⟩:=ay h (by omega)
   have e2':ae b (p.length:Int)=some y:=by grind [qX]
   simp only [iW,mt,e1,ai,e2,e2',Option.bind_some,jt,e3]
   rw [ih s (p++[x]) (q++[y]) m e4 (by simp_all) (by simp_all) (by grind) hm']
   by_cases hxy:x=y<;>simp_all [ad,ai]
theorem adI (hk:Fu k) {a b:List Cl} (hlen:a.length<4294967296) (ret:Bool→Option S):iA k a b ret=ret (decide (a=b)):=by
 simp only [iA,yg]
 by_cases h:a.length=b.length
 ·have e:((a.length:Int)==(b.length:Int))=true:=by simp [h]
  rw [e,Bool.not_true,ad]
  exact ZK hk ret hlen a b [] [] k rfl rfl rfl h (by omega)
 ·have e:((a.length:Int)==(b.length:Int))=false:=by grind
  rw [e,Bool.not_false,ai,decide_eq_false]
  grind
theorem HN (l:List Cl):(aY l).1.length≤64:=by
 grind [aY]
def be (f:List Cl):Bool:=decide (aY f=(f,0))
theorem oM (hk:Fu k) {f:List Cl} (hf:am f) (hlen:f.length<2147483648) (ret:Bool→Option S):fP k f ret=ret (be f):=by
 have:=HN f
 simp only [fP,Ok,ak hk,jj hk hf hlen,adC hk (show (aY f).1.length<4294967296 by omega),b9,be,beq_iff_eq]
 by_cases h:(aY f).2=0
 all_goals simp_all [Prod.ext_iff]
theorem fE (hk:Fu k) {f:List Cl} (hf:am f) (hlen:f.length<2147483648) (ret:Bool→Option S):dJ k f ret=ret (be f):=by
 have:=HN f
 simp only [dJ,OZ,ak hk,mj hk hf hlen,adI hk (show (aY f).1.length<4294967296 by omega),b9,be,beq_iff_eq]
 by_cases h:(aY f).2=0
 all_goals simp_all [Prod.ext_iff]
end Go.Proofs.YtehekgbehghgdaaGreatDoor
namespace Go.Proofs.YtehekgbehghgdaaGreatDoor
open Go PI
set_option linter.unusedVariables false
set_option linter.unusedSimpArgs false
set_option maxRecDepth 20000
variable {S:Type} {k:Nat}
def RF (f:List Cl):Prop:=aY f=(f,0)∧am f
theorem eI {f:List Cl} (h:am f):be f=true↔RF f:=by grind [be,RF]
theorem RF.right {f:List Cl} (h:RF f):be f=true:=by unfold be;simp [h.1]
theorem wJ {l o:List Cl} (h:aY l=(o,0)):o=cY l∧l.all eH=true∧o.length≤64:=by
 grind [aY]
theorem RF.len {f:List Cl} (h:RF f):f.length≤64:=(wJ h.1).2.2
theorem RF.rc {f:List Cl} (h:RF f) {c:Cl} (hc:c∈f):RC c:=(xL (h.2 c hc)).1 (List.all_eq_true.1 (wJ h.1).2.1 c hc)
theorem abK (l:List Cl):cY (cY l)=cY l:=xZ (om _) (om _) fun c=>by
 grind [mem_mins,bK]
theorem og {l:List Cl} (hl:am l) (h:(aY l).2=0):RF (aY l).1:=by
 have h':aY l=((aY l).1,0):=Prod.ext rfl h
 obtain ⟨h1,h2,h3⟩:=wJ h'
 have hok:am (aY l).1:=fun c hc=>hl c ((mem_mins.1 (h1▸hc)).1)
 refine ⟨?_,hok⟩
 grind [aY,mem_mins,abK]
theorem HO {l:List Cl} (h:(aY l).2≠0):(aY l).1=[]:=by
 grind [aY]
theorem oE:RF []:=⟨rfl,fun c hc=>by cases hc⟩
theorem gh {c:Cl} (h:RC c):RF [c]:=by
 have hok:am [c]:=fun d hd=>by simp at hd;subst hd;exact h.ok
 refine ⟨?_,hok⟩
 have hm:cY [c]=[c]:=xZ (om _) (by simp) fun d=>by
  grind [mem_mins,bK]
 unfold aY
 rw [hm,if_pos (by simp [(xL h.ok).2 h]),if_neg (by simp)]
theorem mf:RC ⟨0,0⟩:=⟨⟨by decide,by decide⟩,by decide,by decide⟩
theorem eb {f g:List Cl} (hf:am f) (hg:am g):am (f++g):=fun c hc=>by
 rcases List.mem_append.1 hc with h|h
 ·exact hf c h
 ·exact hg c h
theorem aaM (hk:Fu k) (ret:Int→Option S) {l:List (List Cl)} (hl: ∀f∈l,am f∧f.length<2147483648) (hlen:l.length<4294967296):
  ∀ (r p:List (List Cl)) (m:Nat),l=p++r→r.length<m→nE k ret l m (p.length:Int)=ret (if r.all be then 0 else 2):=by
 intro r
 induction r with
 |nil=>
  grind [al,nE,tH,ad]
 |cons x r ih=>
  intro p m h hm
  obtain ⟨m,rfl,hm'⟩:=al hm
  obtain ⟨e1,e2,e3,e4⟩:=ay h (by omega)
  have hx:=hl x (by grind)
  grind [nE,tH,ai,ak,oM,ad]
theorem Dj (hk:Fu k) {l:List (List Cl)} (hl: ∀f∈l,am f∧f.length<2147483648) (hlen:l.length<4294967296) (ret:Int→Option S):mK k l ret=ret (if l.all be then 0 else 2):=by
 simp only [mK,D0]
 exact aaM hk ret hl hlen l [] k rfl (by omega)
def ck (f g:List Cl):List Cl×Int:=aY (f++g)
def meets (f g:List Cl):List Cl:=f.flatMap fun a=>g.map (dE a)
def cH (f g:List Cl):List Cl×Int:=aY (meets f g)
theorem Jx {f g:List Cl} (hf:am f) (hg:am g):am (meets f g):=fun c hc=>by
 obtain ⟨a,ha,hc⟩:=List.mem_flatMap.1 hc
 obtain ⟨b,hb,rfl⟩:=List.mem_map.1 hc
 exact wN (hf a ha) (hg b hb)
theorem jg {f g:List Cl} (hf:am f) (hg:am g) (h:(cH f g).2=0):RF (cH f g).1:=og (Jx hf hg) h
theorem Hm {f g:List Cl} (hf:am f) (hg:am g) (h:(ck f g).2=0):RF (ck f g).1:=og (eb hf hg) h
theorem xQ (hk:Fu k) {f g:List Cl} (hf:am f) (hg:am g) (h1:f.length<1073741824) (h2:g.length<1073741824) (ret:List Cl×Int→Option S):kY k f g ret=ret (ck f g):=by
 simp only [kY,Ol,ak hk,List.nil_append]
 rw [aL (by grind),aL (by omega),jj hk (eb hf hg) (by grind)]
 rfl
theorem aak (hk:Fu k) (ret:List Cl×Int→Option S) (rec0:Int→List Cl→Option S) {x:Cl} (hx:aM x) {g f:List Cl} {v:Int} (hg:am g) (hlen:g.length<65536):
  ∀ (r p:List Cl) (m:Nat) (o:List Cl),g=p++r→r.length<m→o.length+r.length<1099511627776→lr k ret rec0 x g f v m (p.length:Int) o=rec0 (IntKind.wrap .i64 (v+1)) (o++r.map (dE x)):=by
 intro r
 induction r with
 |nil=>
  intro p m o h hm ho
  obtain ⟨m,rfl,hm'⟩:=al hm
  grind [lr,tF,ad]
 |cons y r ih=>
  intro p m o h hm ho
  obtain ⟨m,rfl,hm'⟩:=al hm
  obtain ⟨e1,e2,e3,e4⟩:=ay h (by omega)
  have hy:aM y:=hg y (by grind)
  simp only [List.length_cons] at ho
  simp only [lr,tF,e1,ai,e2,Option.bind_some,ak hk,Dg hk hx hy,e3]
  grind [aL]
theorem aaj (hk:Fu k) (ret:List Cl×Int→Option S) {g f:List Cl} (hf:am f) (hg:am g) (hlf:f.length<32768) (hlg:g.length<32768):
  ∀ (r p:List Cl) (m:Nat) (o:List Cl),f=p++r→r.length<m→am o→o.length+r.length*g.length<1073741825→jY k ret g f m (p.length:Int) o=ret (aY (o++meets r g)):=by
 intro r
 induction r with
 |nil=>
  grind [al,jY,pn,ad,ak,jj,meets]
 |cons x r ih=>
  intro p m o h hm hok ho
  obtain ⟨m,rfl,hm'⟩:=al hm
  obtain ⟨e1,e2,e3,e4⟩:=ay h (by omega)
  have hx:aM x:=hf x (by grind)
  have hmul:(x::r).length*g.length=r.length*g.length+g.length:=by grind
  rw [hmul] at ho
  have hk':4294967296≤k:=hk
  simp only [jY,pn,e1,ai,e2,Option.bind_some]
  have:=aak hk ret (jY k ret g f m) (f:=f) (v:=(p.length:Int)) hx hg (by omega) g [] k o rfl (by omega) (by omega)
  simp only [List.length_nil] at this
  rw [show (0:Int)=((0:Nat):Int) from rfl,this,e3,ih (p++[x]) m _ e4 hm' (eb hok fun c hc=>by
   obtain ⟨b,hb,rfl⟩:=List.mem_map.1 hc
   exact wN hx (hg b hb)) (by grind)]
  simp [meets]
theorem sQ (hk:Fu k) {f g:List Cl} (hf:am f) (hg:am g) (h1:f.length<32768) (h2:g.length<32768) (ret:List Cl×Int→Option S):iw k f g ret=ret (cH f g):=by
 simp only [iw,DY]
 have hb:f.length*g.length<1073741824:=Nat.lt_of_le_of_lt (Nat.mul_le_mul (Nat.le_of_lt_succ h1) (Nat.le_of_lt_succ h2)) (by decide)
 have:=aaj hk ret hf hg h1 h2 f [] k [] rfl (by omega) (fun c hc=>by cases hc) (by grind)
 grind [cH]
theorem aaS (hk:Fu k) (ret:List Cl×Int→Option S) (rec0:List Cl→Int→Option S) {x:Cl} (hx:RC x) {g f:List Cl} {v:Int} (hfx:ae f v=some x) (hg: ∀c∈g,RC c) (hlen:g.length<65536):
  ∀ (r p:List Cl) (m:Nat) (o:List Cl),g=p++r→r.length<m→o.length+r.length<1099511627776→lD k ret rec0 f g v m o (p.length:Int)=rec0 (o++r.map (dE x)) (IntKind.wrap .i64 (v+1)):=by
 intro r
 induction r with
 |nil=>
  intro p m o h hm ho
  obtain ⟨m,rfl,hm'⟩:=al hm
  grind [lD,tX,ad]
 |cons y r ih=>
  intro p m o h hm ho
  obtain ⟨m,rfl,hm'⟩:=al hm
  obtain ⟨e1,e2,e3,e4⟩:=ay h (by omega)
  have hy:RC y:=hg y (by grind)
  simp only [List.length_cons] at ho
  simp only [lD,tX,e1,ai,e2,hfx,Option.bind_some,ak hk,Nk hk hx hy,e3]
  grind [aL]
theorem aaR (hk:Fu k) (ret:List Cl×Int→Option S) {g f:List Cl} (hf: ∀c∈f,RC c) (hg: ∀c∈g,RC c) (hlf:f.length<32768) (hlg:g.length<32768):
  ∀ (r p:List Cl) (m:Nat) (o:List Cl),f=p++r→r.length<m→am o→o.length+r.length*g.length<1073741825→j5 k ret f g m o (p.length:Int)=ret (aY (o++meets r g)):=by
 intro r
 induction r with
 |nil=>
  grind [al,j5,py,ad,ak,mj,meets]
 |cons x r ih=>
  intro p m o h hm hok ho
  obtain ⟨m,rfl,hm'⟩:=al hm
  obtain ⟨e1,e2,e3,e4⟩:=ay h (by omega)
  have hx:RC x:=hf x (by grind)
  have hmul:(x::r).length*g.length=r.length*g.length+g.length:=by grind
  rw [hmul] at ho
  have hk':4294967296≤k:=hk
  simp only [j5,py,e1,ai]
  have:=aaS hk ret (j5 k ret f g m) hx e2 hg (by omega) g [] k o rfl (by omega) (by omega)
  simp only [List.length_nil] at this
  rw [show (0:Int)=((0:Nat):Int) from rfl,this,e3,ih (p++[x]) m _ e4 hm' (eb hok fun c hc=>by
   obtain ⟨b,hb,rfl⟩:=List.mem_map.1 hc
   exact (Jw hx (hg b hb)).ok) (by grind)]
  simp [meets]
theorem RF.lt {f:List Cl} (h:RF f):f.length<2147483648:=by have:=h.len;omega
theorem xU (hk:Fu k) {f g:List Cl} (hf:RF f) (hg:RF g) (ret:List Cl×Int→Option S):iC k f g ret=ret (cH f g):=by
 have l1:=hf.len;have l2:=hg.len
 simp only [iC,Ei,ak hk,fE hk hf.2 hf.lt,fE hk hg.2 hg.lt,hf.right,hg.right,Bool.not_true,ad]
 have hb:f.length*g.length≤64*64:=Nat.mul_le_mul l1 l2
 have:=aaR hk ret (fun c hc=>hf.rc hc) (fun c hc=>hg.rc hc) (by omega) (by omega) f [] k [] rfl (by omega) (fun c hc=>by cases hc) (by grind)
 grind [cH]
theorem ael (hk:Fu k) {f g:List Cl} (hf:RF f) (hg:RF g) (ret:List Cl×Int→Option S):vm k f g ret=ret (ck f g):=by
 have l1:=hf.len;have l2:=hg.len
 simp only [vm,OY,ak hk,fE hk hf.2 hf.lt,fE hk hg.2 hg.lt,hf.right,hg.right,Bool.not_true,ad,List.nil_append]
 rw [aL (by grind),aL (by omega),mj hk (eb hf.2 hg.2) (by grind)]
 rfl
end Go.Proofs.YtehekgbehghgdaaGreatDoor
namespace Go.Proofs.YtehekgbehghgdaaGreatDoor
open Go PI
set_option linter.unusedVariables false
set_option linter.unusedSimpArgs false
set_option maxRecDepth 20000
variable {S:Type} {k:Nat}
theorem u0:U32 0:=⟨by decide,by decide⟩
def nl (i:Int):Cl:=⟨0,eh 0 i⟩
def pl (i:Int):Cl:=⟨eh 0 i,0⟩
theorem Cc (i:Int):RC (nl i):=⟨⟨by show (0:Int)≤0;decide,by show (0:Int)<16777216;decide⟩,withS_lt⟩
theorem Co (i:Int):RC (pl i):=⟨withS_lt,⟨by show (0:Int)≤0;decide,by show (0:Int)<16777216;decide⟩⟩
def ou (c:Cl):List Cl:=(eV c.pos).map nl++(eV c.neg).map pl
def lY (c:Cl):List Cl×Int:=aY (ou c)
theorem BJ (s:Int):(eV s).length≤24:=by grind [eV,dT,fb]
theorem JQ {c d:Cl} (h:d∈ou c):RC d:=by
 rcases List.mem_append.1 h with h|h<;>grind [Cc,Co]
theorem acn (c:Cl):(ou c).length≤48:=by
 grind [BJ,ou]
theorem HQ {l:List Cl} (h: ∀c∈l,RC c) (hl:l.length≤64):(aY l).2=0:=by
 have:=Jz l
 unfold aY
 rw [if_pos (List.all_eq_true.2 fun c hc=>(xL (h c hc).ok).2 (h c hc)),if_neg (by omega)]
theorem JR (c:Cl):(lY c).2=0:=HQ (fun d hd=>JQ hd) (by have:=acn c;omega)
theorem wS (c:Cl):RF (lY c).1:=og (fun d hd=>(JQ hd).ok) (JR c)
theorem aao (hk:Fu k) (ret:List Cl×Int→Option S) {l:List Int} (hlen:l.length≤64):
  ∀ (r p:List Int) (m:Nat) (o:List Cl),l=p++r→r.length<m→am o→o.length+r.length<1073741824→lu k ret l m (p.length:Int) o=ret (aY (o++r.map pl)):=by
 intro r
 induction r with
 |nil=>
  grind [al,lu,tG,ad,ak,jj]
 |cons x r ih=>
  intro p m o h hm hok ho
  obtain ⟨m,rfl,hm'⟩:=al hm
  obtain ⟨e1,e2,e3,e4⟩:=ay h (by omega)
  simp only [List.length_cons] at ho
  simp only [lu,tG,e1,ai,e2,Option.bind_some,ak hk,sN hk u0,e3]
  rw [aL (by grind),ih (p++[x]) m _ e4 hm' (eb hok fun c hc=>by simp at hc;subst hc;exact (Co x).ok) (by grind)]
  simp [pl]
theorem aan (hk:Fu k) (ret:List Cl×Int→Option S) {c:Cl} (hc:aM c) {l:List Int} (hlen:l.length≤64):
  ∀ (r p:List Int) (m:Nat) (o:List Cl),l=p++r→r.length<m→am o→o.length+r.length<1000000→nD k ret c l m (p.length:Int) o=ret (aY (o++r.map nl++(eV c.neg).map pl)):=by
 intro r
 induction r with
 |nil=>
  intro p m o h hm hok ho
  obtain ⟨m,rfl,hm'⟩:=al hm
  simp only [List.length_nil] at ho
  have hl:=BJ c.neg
  have hk':4294967296≤k:=hk
  simp only [nD,po,cv h,ad,sh,Jt hc.2,List.map_nil,List.append_nil]
  grind [aao]
 |cons x r ih=>
  intro p m o h hm hok ho
  obtain ⟨m,rfl,hm'⟩:=al hm
  obtain ⟨e1,e2,e3,e4⟩:=ay h (by omega)
  simp only [List.length_cons] at ho
  simp only [nD,po,e1,ai,e2,Option.bind_some,ak hk,sN hk u0,e3]
  rw [aL (by grind),ih (p++[x]) m _ e4 hm' (eb hok fun c hc=>by simp at hc;subst hc;exact (Cc x).ok) (by grind)]
  simp [nl]
theorem aed (hk:Fu k) {c:Cl} (hc:aM c) (ret:List Cl×Int→Option S):u9 k c ret=ret (lY c):=by
 have hl:=BJ c.pos
 simp only [u9,DZ,sh,Jt hc.1]
 have:=aan hk ret hc (l:=eV c.pos) (by omega) (eV c.pos) [] k [] rfl (by omega) (fun c hc=>by cases hc) (by grind)
 grind [lY,ou]
def hX (c:Cl) (i:Nat):List Cl:=(if bo c.pos i then [nl i] else [])++(if bo c.neg i then [pl i] else [])
def hY (c:Cl) (n:Nat):List Cl:=(List.range n).flatMap (hX c)
theorem afU (c:Cl) (i:Nat):(hX c i).length≤2:=by grind [hX]
theorem afV {c d:Cl} {i:Nat} (h:d∈hX c i):RC d:=by
 grind [hX,Cc,Co]
theorem PF (c:Cl) (n:Nat):hY c (n+1)=hY c n++hX c n:=by simp [hY,List.range_succ]
theorem PE (c:Cl) (n:Nat):(hY c n).length≤2*n:=by
 induction n<;>grind [hY,PF,afU]
theorem afW {c d:Cl} {n:Nat} (h:d∈hY c n):RC d:=by
 obtain ⟨i,_,hi⟩:=List.mem_flatMap.1 h;exact afV hi
theorem aeR (hk:Fu k) (i:Nat) (hi:i<24) (ret:Int→Option S):gC k [(i:Int)] ret=ret (eh 0 i):=by
 have:=oQ hk [i] (by simp) (by grind) ret
 grind [ints,yp,bX]
theorem aa4 (hk:Fu k) (ret:List Cl→Option S) {c:Cl} (hc:aM c): ∀ (d i m:Nat),i+d=24→d<m→nQ k ret c m (hY c i) (i:Int)=ret (aY (hY c 24)).1:=by
 intro d
 induction d with
 |zero=>
  intro i m e hm
  obtain ⟨m,rfl,hm'⟩:=al hm
  have:i=24:=by omega
  subst this
  have hlen:=PE c 24
  simp only [nQ,tZ,aO,ak hk,mj hk (show am (hY c 24) from fun d hd=>(afW hd).ok) (by omega)]
  rfl
 |succ d ih=>
  intro i m e hm
  obtain ⟨m,rfl,hm'⟩:=al hm
  have e2:(i:Int)+1=((i+1:Nat):Int):=by simp
  have hlen:=PE c i
  simp only [nQ,tZ,ak hk,gi hk hc.1,gi hk hc.2,b9,decide_eq_true_eq,aeR hk i (by omega)]
  rw [if_pos (by omega),c5 (by omega) (by omega),e2]
  have hi:=ih (i+1) m (by omega) (by omega)
  rw [PF] at hi
  cases hp:bo c.pos (i:Int)<;>cases hn:bo c.neg (i:Int)<;>simp only [hX,hp,hn,if_true,Bool.false_eq_true,if_false,List.append_nil,List.nil_append,List.append_assoc,List.singleton_append] at hi ⊢
  ·exact hi
  ·rw [aL (by grind)];exact hi
  ·rw [aL (by grind)];exact hi
  ·rw [aL (by grind),aL (by grind)];exact hi
theorem aeJ (hk:Fu k) {c:Cl} (hc:aM c) (ret:List Cl→Option S):vo k c ret=ret (lY c).1:=by
 simp only [vo,Em]
 have:=aa4 hk ret hc 24 0 k (by omega) (by omega)
 refine Eq.trans this ?_
 congr 2
 refine aba fun d=> ?_
 unfold hY ou
 rw [List.mem_flatMap,List.mem_append,List.mem_map,List.mem_map]
 have hs: ∀ (s:Int) (x:Int),x∈eV s↔ ∃i:Nat,i<24∧s.toNat.testBit i=true∧x=i:=by
  grind [eV,ints,mem_bitsN]
 have hh: ∀ (s:Int) (i:Nat),i<24→bo s (i:Int)=s.toNat.testBit i:=by
  grind [bo]
 constructor
 ·grind [hX]
 ·rintro (⟨x,hx,rfl⟩|⟨x,hx,rfl⟩)
  ·obtain ⟨i,h1,h2,rfl⟩:=(hs _ _).1 hx
   refine ⟨i,by grind, ?_⟩
   grind [hX]
  ·obtain ⟨i,h1,h2,rfl⟩:=(hs _ _).1 hx
   refine ⟨i,by grind, ?_⟩
   grind [hX]
def a8 (step:List Cl→Cl→List Cl×Int):List Cl→List Cl→List Cl×Int
 |h,[]=>(h,0)
 |h,c::r=>if (step h c).2=0 then a8 step (step h c).1 r else ([],(step h c).2)
def kh (h:List Cl) (c:Cl):List Cl×Int:=cH h (lY c).1
def cx (f:List Cl):List Cl×Int:=a8 kh [⟨0,0⟩] f
theorem abF {f g:List Cl} (h:(cH f g).2≠0):(cH f g).1=[]:=HO h
theorem GR {step:List Cl→Cl→List Cl×Int} (hs: ∀h c,RF h→(step h c).2=0→RF (step h c).1): ∀ {r h:List Cl},RF h→(a8 step h r).2=0→RF (a8 step h r).1:=by
 intro r
 induction r<;>grind [a8]
theorem Ce (h:List Cl) (c:Cl) (hh:RF h) (h0:(kh h c).2=0):RF (kh h c).1:=jg hh.2 (wS c).2 h0
theorem gW {f:List Cl} (h:(cx f).2=0):RF (cx f).1:=GR Ce (gh mf) h
theorem bQ (n:Int):(n==0)=decide (n=0):=by rfl
theorem aec (hk:Fu k) {h:List Cl} {c:Cl} (hh:RF h) (hc:aM c) (ret:List Cl×Int→Option S):u7 k h c ret=ret (kh h c):=by
 have:=hh.len;have:=(wS c).len
 simp only [u7,On,ak hk,aed hk hc,JR,sQ hk hh.2 (wS c).2 (show h.length<32768 by omega) (show (lY c).1.length<32768 by omega)]
 rfl
theorem Z8 (hk:Fu k) (ret:List Cl×Int→Option S) {l:List Cl} (hl:am l) (hlen:l.length<2147483648):
  ∀ (r p:List Cl) (m:Nat) (h:List Cl),l=p++r→r.length<m→RF h→nB k ret l m h (p.length:Int)=ret (a8 kh h r):=by
 intro r
 induction r with
 |nil=>
  intro p m h e hm hh
  obtain ⟨m,rfl,hm'⟩:=al hm
  simp only [nB,tC,cv e,ad];rfl
 |cons x r ih=>
  intro p m h e hm hh
  obtain ⟨m,rfl,hm'⟩:=al hm
  obtain ⟨e1,e2,e3,e4⟩:=ay e (by omega)
  have hx:aM x:=hl x (by grind)
  simp only [nB,tC,e1,ai,e2,Option.bind_some,ak hk,aec hk hh hx,bQ,e3]
  grind [ad,Ce,a8,ai]
theorem Nb (hk:Fu k) {f:List Cl} (hf:am f) (hlen:f.length<2147483648) (ret:List Cl×Int→Option S):mJ k f ret=ret (cx f):=by
 simp only [mJ,Om,ak hk,mI,DT,Ai,DW]
 exact Z8 hk ret hf hlen f [] k _ rfl (by omega) (gh mf)
theorem adU (hk:Fu k) {f:List Cl} (hf:am f) (hlen:f.length<2147483648) (ret:List Cl×Int→Option S):u3 k f ret=ret (if be f then cx f else ([],2)):=by
 simp only [u3,Oh,ak hk,Dj hk (l:=[f]) (by grind) (by simp),Nb hk hf hlen]
 have:[f].all be=be f:=by simp
 rw [this]
 by_cases h:be f=true
 ·rw [if_pos h,if_pos h];rfl
 ·rw [if_neg h,if_neg h];rfl
theorem aaU (hk:Fu k) (ret:List Cl×Int→Option S) {l:List Cl} (hl:am l) (hlen:l.length<2147483648):
  ∀ (r p:List Cl) (m:Nat) (h:List Cl) (e:Int),l=p++r→r.length<m→(e=0→RF h)→(e≠0→h=[])→nO k ret l m h e (p.length:Int)=ret (if e=0 then a8 kh h r else ([],e)):=by
 intro r
 induction r with
 |nil=>
  intro p m h e el hm h1 h2
  obtain ⟨m,rfl,hm'⟩:=al hm
  simp only [nO,tY,cv el,ad]
  by_cases h0:e=0
  ·rw [if_pos h0,h0];rfl
  grind
 |cons x r ih=>
  intro p m h e el hm h1 h2
  obtain ⟨m,rfl,hm'⟩:=al hm
  obtain ⟨e1,e2,e3,e4⟩:=ay el (by omega)
  have hx:aM x:=hl x (by grind)
  simp only [nO,tY,e1,ai,bQ,e3,e2,Option.bind_some,ak hk,aeJ hk hx]
  by_cases h0:e=0
  ·have hh:=h1 h0
   rw [decide_eq_true h0,ai,xU hk hh (wS x),if_pos h0]
   have:=ih (p++[x]) m (kh h x).1 (kh h x).2 e4 hm' (fun h0=>Ce h x hh h0) (fun h0=>abF h0)
   exact this
  grind [ad]
theorem Nq (hk:Fu k) {f:List Cl} (hf:am f) (hlen:f.length<2147483648) (ret:List Cl×Int→Option S):mS k f ret=ret (if be f then cx f else ([],2)):=by
 simp only [mS,Ej,ak hk,fE hk hf hlen]
 by_cases h:be f=true
 ·rw [h,Bool.not_true,ad,if_pos rfl]
  have:=aaU hk ret hf hlen f [] k [⟨0,0⟩] 0 rfl (by omega) (fun _=>gh mf) (fun h=>absurd rfl h)
  rw [if_pos rfl] at this
  exact this
 grind [ai]
end Go.Proofs.YtehekgbehghgdaaGreatDoor
namespace Go.Proofs.YtehekgbehghgdaaGreatDoor
open Go PI
set_option linter.unusedVariables false
set_option linter.unusedSimpArgs false
set_option maxRecDepth 20000
variable {S:Type} {k:Nat}
def bR (i:Int) (c:Cl):Cl:=⟨cZ c.pos i,cZ c.neg i⟩
theorem iN (i:Int) (c:Cl):RC (bR i c):=⟨E6,E6⟩
def dF (i:Int) (r:List Cl) (c:Cl):List Cl×Int:=if bo c.pos i then cH [bR i c] r else ([bR i c],0)
def ee (i:Int) (r:List Cl) (c:Cl) (g:List Cl):List Cl×Int:=if bo c.neg i then if (cx r).2=0 then cH g (cx r).1 else ([],(cx r).2) else (g,0)
def dt (i:Int) (r h:List Cl) (c:Cl):List Cl×Int:=
 if (dF i r c).2=0 then if (ee i r c (dF i r c).1).2=0 then ck h (ee i r c (dF i r c).1).1 else ([],(ee i r c (dF i r c).1).2) else ([],(dF i r c).2)
def jL (i:Int):Bool:=decide (0≤i∧i<24)
def gc (f:List Cl) (i:Int) (r:List Cl):List Cl×Int:=if be f&&be r&&jL i then a8 (dt i r) [] f else ([],2)
theorem acv {i:Int} {r:List Cl} {c:Cl} (hr:RF r) (h:(dF i r c).2=0):RF (dF i r c).1:=by
 unfold dF at h ⊢
 split
 ·next hh=>rw [if_pos hh] at h;exact jg (gh (iN i c)).2 hr.2 h
 simp_all [gh,iN]
theorem acx {i:Int} {r g:List Cl} {c:Cl} (hg:RF g) (h:(ee i r c g).2=0):RF (ee i r c g).1:=by
 unfold ee at h ⊢
 split
 ·next hh=>
  rw [if_pos hh] at h
  split
  ·next hn=>rw [if_pos hn] at h;exact jg hg.2 (gW hn).2 h
  grind
 omega
theorem JW {i:Int} {r:List Cl} (hr:RF r) (h:List Cl) (c:Cl) (hh:RF h) (h0:(dt i r h c).2=0):RF (dt i r h c).1:=by
 unfold dt at h0 ⊢
 split
 ·next ha=>
  rw [if_pos ha] at h0
  have hA:=acv hr ha
  split
  ·next hb=>rw [if_pos hb] at h0;exact Hm hh.2 (acx hA hb).2 h0
  grind
 grind
theorem adH (hk:Fu k) {i:Int} {r h:List Cl} {c:Cl} (hr:RF r) (hh:RF h) (hc:aM c) (ret:List Cl×Int→Option S):u5 k h c i r ret=ret (dt i r h c):=by
 have l1:=hr.len;have l2:=hh.len
 have hg:=gh (iN i c)
 simp only [u5,Oj,ak hk,sO hk hc.1,sO hk hc.2,oL hk hc.1,oL hk hc.2,sQ hk hg.2 hr.2 (show [bR i c].length<32768 by simp) (show r.length<32768 by omega),Nb hk hr.2 hr.lt,bQ,b9,decide_eq_true_eq,Bool.not_eq_true',decide_eq_false_iff_not]
 have e: ∀ (f:List Cl×Int→Option S),iw k [Cl.mk (cZ c.pos i) (cZ c.neg i)] r f=f (cH [bR i c] r):=fun f=>sQ hk hg.2 hr.2 (by simp) (by omega) f
 simp only [e]
 unfold dt dF ee
 by_cases hp:bo c.pos i=true
 ·simp only [hp,if_true]
  by_cases h1:(cH [bR i c] r).2=0
  ·have hA:RF (cH [bR i c] r).1:=jg hg.2 hr.2 h1
   have l3:=hA.len
   simp only [h1,not_true,if_false,if_true]
   by_cases hn:bo c.neg i=true
   ·simp only [hn,if_true]
    by_cases h2:(cx r).2=0
    ·have hN:=gW h2
     have l4:=hN.len
     simp only [h2,not_true,if_false,if_true]
     rw [sQ hk hA.2 hN.2 (by omega) (by omega)]
     by_cases h3:(cH (cH [bR i c] r).1 (cx r).1).2=0
     ·have hB:=jg hA.2 hN.2 h3
      have l5:=hB.len
      simp only [h3,not_true,if_false,if_true]
      rw [xQ hk hh.2 hB.2 (by omega) (by omega)]
     grind
    grind
   ·simp only [hn,Bool.false_eq_true,if_false,if_true]
    rw [xQ hk hh.2 hA.2 (by omega) (by omega)]
  grind
 ·simp only [hp,Bool.false_eq_true,if_false,if_true]
  by_cases hn:bo c.neg i=true
  ·simp only [hn,if_true]
   by_cases h2:(cx r).2=0
   ·have hN:=gW h2
    have l4:=hN.len
    simp only [h2,not_true,if_false,if_true]
    have e2: ∀ (f:List Cl×Int→Option S),iw k [Cl.mk (cZ c.pos i) (cZ c.neg i)] (cx r).1 f=f (cH [bR i c] (cx r).1):=fun f=>sQ hk hg.2 hN.2 (by simp) (by omega) f
    rw [e2]
    by_cases h3:(cH [bR i c] (cx r).1).2=0
    ·have hB:=jg hg.2 hN.2 h3
     have l5:=hB.len
     simp only [h3,not_true,if_false,if_true]
     rw [xQ hk hh.2 hB.2 (by omega) (by omega)]
    grind
   grind
  ·simp only [hn,Bool.false_eq_true,if_false,if_true]
   have:=xQ hk hh.2 hg.2 (by omega) (by simp) ret
   exact this
theorem Z9 (hk:Fu k) (ret:List Cl×Int→Option S) {i:Int} {q:List Cl} (hq:RF q) {l:List Cl} (hl:am l) (hlen:l.length<2147483648):
  ∀ (r p:List Cl) (m:Nat) (h:List Cl),l=p++r→r.length<m→RF h→nA k ret i q l m h (p.length:Int)=ret (a8 (dt i q) h r):=by
 intro r
 induction r with
 |nil=>
  intro p m h e hm hh
  obtain ⟨m,rfl,hm'⟩:=al hm
  simp only [nA,tB,cv e,ad];rfl
 |cons x r ih=>
  intro p m h e hm hh
  obtain ⟨m,rfl,hm'⟩:=al hm
  obtain ⟨e1,e2,e3,e4⟩:=ay e (by omega)
  have hx:aM x:=hl x (by grind)
  simp only [nA,tB,e1,ai,e2,Option.bind_some,ak hk,adH hk hq hh hx,bQ,e3]
  grind [ad,JW,a8,ai]
theorem adz (hk:Fu k) (i:Int) (ret:List Cl×Int→Option S):u1 k i ret=ret (if jL i then ([⟨eh 0 i,0⟩],0) else ([],2)):=by
 simp only [u1,Oe,ak hk,sN hk u0]
 grind [jL,yp,zV,ad,zU,ai]
theorem adV (hk:Fu k) {f r:List Cl} {i:Int} (hf:am f) (hr:am r) (h1:f.length<2147483648) (h2:r.length<2147483648) (ret:List Cl×Int→Option S):u4 k f i r ret=ret (gc f i r):=by
 simp only [u4,Oi,ak hk,Dj hk (l:=[f,r]) (by grind) (by simp),adz hk]
 have e:[f,r].all be=(be f&&be r):=by simp
 unfold gc
 by_cases ha:(be f&&be r)=true
 ·rw [e,if_pos ha,ha,Bool.true_and]
  rw [show ((0:Int)==0)=true from rfl,Bool.not_true,ad]
  cases hd:jL i with
  |true=>
   rw [if_pos rfl,if_pos rfl]
   rw [show ((0:Int)==0)=true from rfl,Bool.not_true,ad]
   simp only [qk,DU,Ah,DV]
   have hr':=(eI hr).1 (by grind)
   exact Z9 hk ret hr' hf h1 f [] k [] rfl (by omega) oE
  |false=>
   rfl
 simp_all [if_neg,ai]
theorem acC (hk:Fu k) (ret:List Cl×Int→Option S) (rec0:List Cl→Int→Option S) (f:List Cl) (i:Int) (r:List Cl) {h:List Cl} {v:Int} {g:List Cl} {e:Int} (hh:RF h) (hg:e=0→RF g):
  nP k ret rec0 f i r h v k g e=if e=0 then if (ck h g).2=0 then rec0 (ck h g).1 (IntKind.wrap .i64 (v+1)) else ret ([],(ck h g).2) else ret ([],e):=by
 obtain ⟨q,hq⟩: ∃q,k=q+1:=⟨k-1,by omega⟩
 grind [nP,zE,ai,ak,ael,ad]
theorem aaV (hk:Fu k) (ret:List Cl×Int→Option S) {i:Int} {q:List Cl} (hq:RF q) {l:List Cl} (hl:am l) (hlen:l.length<2147483648):
  ∀ (r p:List Cl) (m:Nat) (h:List Cl),l=p++r→r.length<m→RF h→j6 k ret l i q m h (p.length:Int)=ret (a8 (dt i q) h r):=by
 intro r
 induction r with
 |nil=>
  intro p m h e hm hh
  obtain ⟨m,rfl,hm'⟩:=al hm
  simp only [j6,pz,cv e,ad];rfl
 |cons x r ih=>
  intro p m h e hm hh
  obtain ⟨m,rfl,hm'⟩:=al hm
  obtain ⟨e1,e2,e3,e4⟩:=ay e (by omega)
  have hx:aM x:=hl x (by grind)
  have hg:=gh (iN i x)
  have key: ∀ (g:List Cl) (e:Int),(e=0→RF g)→(dt i q h x=if e=0 then ck h g else ([],e))→nP k ret (j6 k ret l i q m) l i q h (p.length:Int) k g e=ret (a8 (dt i q) h (x::r)):=by
   intro g e hge hput
   rw [acC hk _ _ _ _ _ hh hge,a8,hput]
   by_cases h0:e=0
   ·rw [if_pos h0,if_pos h0]
    by_cases h1:(ck h g).2=0
    ·rw [if_pos h1,if_pos h1,e3]
     exact ih (p++[x]) m _ e4 hm' (Hm hh.2 (hge h0).2 h1)
    grind
   grind
  have em: ∀ (f:List Cl×Int→Option S),iC k [Cl.mk (cZ x.pos i) (cZ x.neg i)] q f=f (cH [bR i x] q):=fun f=>xU hk hg hq f
  simp only [j6,pz,e1,ai,e2,Option.bind_some,ak hk,xW hk hx.1,xW hk hx.2,gi hk hx.1,gi hk hx.2,em,Nq hk hq.2 hq.lt,hq.right,if_true,bQ]
  cases hp:bo x.pos i with
  |true=>
   rw [ai]
   by_cases h1:(cH [bR i x] q).2=0
   ·have hA:RF (cH [bR i x] q).1:=jg hg.2 hq.2 h1
    rw [decide_eq_true h1,ai]
    cases hn:bo x.neg i with
    |true=>
     rw [ai]
     by_cases h2:(cx q).2=0
     ·rw [decide_eq_true h2,ai,xU hk hA (gW h2)]
      exact key _ _ (fun h0=>jg hA.2 (gW h2).2 h0) (by grind [dt,dF,ee])
     grind [ad,dt,dF,ee]
    |false=>
     grind [ad,dt,dF,ee]
   grind [ad,dt,dF]
  |false=>
   rw [ad]
   cases hn:bo x.neg i with
   |true=>
    rw [ai]
    by_cases h2:(cx q).2=0
    ·have em2: ∀ (f:List Cl×Int→Option S),iC k [Cl.mk (cZ x.pos i) (cZ x.neg i)] (cx q).1 f=f (cH [bR i x] (cx q).1):=fun f=>xU hk hg (gW h2) f
     rw [decide_eq_true h2,ai,em2]
     exact key _ _ (fun h0=>jg hg.2 (gW h2).2 h0) (by grind [dt,dF,ee])
    grind [ad,dt,dF,ee]
   |false=>
    grind [ad,bR,dt,dF,ee]
theorem aez (hk:Fu k) {f r:List Cl} {i:Int} (hf:am f) (hr:am r) (h1:f.length<2147483648) (h2:r.length<2147483648) (ret:List Cl×Int→Option S):vn k f i r ret=ret (gc f i r):=by
 simp only [vn,Ek,ak hk,fE hk hf h1,fE hk hr h2,aO]
 unfold gc jL
 cases ha:be f with
 |false=>rfl
 |true=>
  rw [Bool.not_true,ad]
  cases hb:be r with
  |false=>rfl
  |true=>
   rw [Bool.not_true,ad]
   by_cases h3:i<0
   ·grind
   ·by_cases h4:i≥24
    ·grind
    ·rw [if_neg h3,if_neg h4,decide_eq_true (by omega)]
     exact aaV hk ret ((eI hr).1 hb) hf h1 f [] k [] rfl (by omega) oE
theorem abn {m n b:Nat}:(dV m n b).1<16777216:=by
 have h1:m&&&M24<16777216:=Nat.lt_of_le_of_lt Nat.and_le_right (by decide)
 have h2:fA m n≤m&&&M24:=Nat.and_le_left
 unfold dV
 split
 ·omega
 ·split
  ·simp
  ·split
   ·simp
   ·exact Nat.or_lt_two_pow (n:=24) (by omega) (by omega)
theorem HU (s i b:Int):0≤(cu s i b).1∧(cu s i b).1<16777216:=by
 grind [cu,abn]
theorem HS (c:Cl) (i b:Int):RC (cX c i b).1:=by
 unfold cX
 split
 ·split
  ·split
   ·exact ⟨HU _ _ _,HU _ _ _⟩
   ·exact mf
  ·exact mf
 ·exact mf
def da (i b:Int) (h:List Cl) (c:Cl):List Cl×Int:=(h++[(cX c i b).1],(cX c i b).2)
def aX (f:List Cl) (i b:Int):List Cl×Int:=if be f then if (a8 (da i b) [] f).2=0 then aY (a8 (da i b) [] f).1 else ([],(a8 (da i b) [] f).2) else ([],2)
theorem AX {i b:Int}: ∀ {r h:List Cl},am h→am (a8 (da i b) h r).1∧(a8 (da i b) h r).1.length≤h.length+r.length:=by
 intro r
 induction r with
 |nil=>intro h hh;exact ⟨hh,by show h.length≤_;omega⟩
 |cons c r ih=>
  intro h hh
  unfold a8
  split
  ·have:=ih (h:=(da i b h c).1) (eb hh fun d hd=>by simp at hd;subst hd;exact (HS c i b).ok)
   grind [da]
  ·exact ⟨fun d hd=>(by cases hd),by simp⟩
theorem Z7 (hk:Fu k) (ret:List Cl×Int→Option S) {i b:Int} (hi:aH i) (hb:aH b) {l:List Cl} (hl:am l) (hlen:l.length<2147483648):
  ∀ (r p:List Cl) (m:Nat) (h:List Cl),l=p++r→r.length<m→h.length+r.length<4294967296→nC k ret i b l m h (p.length:Int)=ret (a8 (da i b) h r):=by
 intro r
 induction r with
 |nil=>
  intro p m h e hm hh
  obtain ⟨m,rfl,hm'⟩:=al hm
  simp only [nC,tD,cv e,ad];rfl
 |cons x r ih=>
  intro p m h e hm hh
  obtain ⟨m,rfl,hm'⟩:=al hm
  obtain ⟨e1,e2,e3,e4⟩:=ay e (by omega)
  have hx:aM x:=hl x (by grind)
  simp only [List.length_cons] at hh
  simp only [nC,tD,e1,ai,e2,Option.bind_some,ak hk,Ag,Og,adQ hk hx hi hb,bQ,e3]
  grind [aL,ad,a8,da,ai]
theorem sP (hk:Fu k) {f:List Cl} {i b:Int} (hf:am f) (hlen:f.length<1073741824) (hi:aH i) (hb:aH b) (ret:List Cl×Int→Option S):it k f i b ret=ret (aX f i b):=by
 have hlo:=AX (i:=i) (b:=b) (r:=f) (h:=[]) (fun d hd=>by cases hd)
 simp only [List.length_nil] at hlo
 have hfold: ∀ (g:List Cl×Int→Option S),u6 k f [] i b g=g (a8 (da i b) [] f):=fun g=>by
  simp only [u6,DX]
  exact Z7 hk g hi hb hf (by omega) f [] k [] rfl (by omega) (by grind)
 simp only [it,Of,ak hk,Dj hk (l:=[f]) (by grind) (by simp),qk,DU,hfold,jj hk hlo.1 (show _<2147483648 by omega)]
 grind [aX,ad,decide_eq_false,ai]
theorem aaN (hk:Fu k) (ret:List Cl×Int→Option S) {i b:Int} (hi:aH i) (hb:aH b) {l:List Cl} (hl:am l) (hlen:l.length<1073741824):
  ∀ (r p:List Cl) (m:Nat) (h:List Cl),l=p++r→r.length<m→am h→h.length+r.length<2147483648→nN k ret l i b m h (p.length:Int)=ret (if (a8 (da i b) h r).2=0 then aY (a8 (da i b) h r).1 else ([],(a8 (da i b) h r).2)):=by
 intro r
 induction r with
 |nil=>
  grind [al,nN,tW,ad,ak,mj,a8]
 |cons x r ih=>
  intro p m h e hm hok hh
  obtain ⟨m,rfl,hm'⟩:=al hm
  obtain ⟨e1,e2,e3,e4⟩:=ay e (by omega)
  have hx:aM x:=hl x (by grind)
  simp only [List.length_cons] at hh
  simp only [nN,tW,e1,ai,e2,Option.bind_some,ak hk,aek hk hx hi hb,bQ,e3]
  by_cases h0:(cX x i b).2=0
  ·rw [decide_eq_true h0,Bool.not_true,ad,aL (by grind),ih (p++[x]) m _ e4 hm' (eb hok fun d hd=>by simp at hd;subst hd;exact (HS x i b).ok) (by grind),a8,if_pos (show (da i b h x).2=0 from h0)];rfl
  grind [ai,a8,da]
theorem xS (hk:Fu k) {f:List Cl} {i b:Int} (hf:am f) (hlen:f.length<1073741824) (hi:aH i) (hb:aH b) (ret:List Cl×Int→Option S):jG k f i b ret=ret (aX f i b):=by
 simp only [jG,Eh,ak hk,fE hk hf (show f.length<2147483648 by omega)]
 unfold aX
 cases hr:be f with
 |true=>
  rw [Bool.not_true,ad,if_pos rfl]
  exact aaN hk ret hi hb hf hlen f [] k [] rfl (by omega) (fun d hd=>by cases hd) (by grind)
 |false=>
  rfl
theorem je {f:List Cl} {i b:Int} (h:(aX f i b).2=0):RF (aX f i b).1:=by
 unfold aX at h ⊢
 split
 ·next hr=>
  rw [if_pos hr] at h
  split
  ·next h0=>
   rw [if_pos h0] at h
   exact og (AX fun d hd=>by cases hd).1 h
  grind
 grind
theorem abh {f:List Cl} {i b:Int} (h:(aX f i b).2≠0):(aX f i b).1=[]:=by
 grind [aX,HO]
end Go.Proofs.YtehekgbehghgdaaGreatDoor
namespace Go.Proofs.YtehekgbehghgdaaGreatDoor
open Go PI
set_option linter.unusedVariables false
set_option linter.unusedSimpArgs false
set_option maxRecDepth 20000
variable {S:Type} {k:Nat}
def wT (s:Nat) (f:List Cl):Nat:=f.foldl (fun s c=>s|||(c.pos.toNat|||c.neg.toNat)) s
def eQ (f:List Cl):Nat:=wT 0 f&&&M24
def fS (f:List Cl):Int:=((eQ f:Nat):Int)
def h8 (f:List Cl) (i:Nat):Bool:=f.any fun c=>c.pos.toNat.testBit i||c.neg.toNat.testBit i
theorem aco (i:Nat): ∀ {f:List Cl} {s:Nat},(wT s f).testBit i=(s.testBit i||h8 f i):=by
 intro f
 induction f<;>simp_all [wT,h8,Bool.or_assoc]
theorem Az (f:List Cl) (i:Nat):(eQ f).testBit i=(h8 f i&&decide (i<24)):=by
 grind [eQ,fN,aco]
theorem Ay (f:List Cl):eQ f<16777216:=Nat.lt_of_le_of_lt Nat.and_le_right (by decide)
theorem ZU (hk:Fu k) (ret:Int→Option S) {l:List Cl} (hl:am l) (hlen:l.length<4294967296):
  ∀ (r p:List Cl) (m:Nat) (s:Nat),l=p++r→r.length<m→s<4294967296→nz k ret l m (s:Int) (p.length:Int)=ret (((wT s r&&&M24:Nat):Int)):=by
 intro r
 induction r with
 |nil=>
  intro p m s e hm hs
  obtain ⟨m,rfl,hm'⟩:=al hm
  simp only [nz,tA,cv e,ad,ak hk,sO hk (U32.of hs)]
  rfl
 |cons x r ih=>
  intro p m s e hm hs
  obtain ⟨m,rfl,hm'⟩:=al hm
  obtain ⟨e1,e2,e3,e4⟩:=ay e (by omega)
  have hx:aM x:=hl x (by grind)
  have ho:U32 (dN x.pos x.neg):=Cj hx.1 hx.2
  have hq:s|||(x.pos.toNat|||x.neg.toNat)<4294967296:=by
   have h1:=hx.1.1;have h2:=hx.1.2;have h3:=hx.2.1;have h4:=hx.2.2
   have h32:(2:Nat)^32=4294967296:=by decide
   exact Nat.or_lt_two_pow (n:=32) hs (Nat.or_lt_two_pow (n:=32) (by omega) (by omega))
  have es:dN (s:Int) (dN x.pos x.neg)=((s|||(x.pos.toNat|||x.neg.toNat):Nat):Int):=by rfl
  simp only [nz,tA,e1,ai,e2,Option.bind_some,ov hx.1 hx.2,ov (U32.of hs) ho,e3,es]
  exact ih (p++[x]) m _ e4 hm' hq
theorem Dh (hk:Fu k) {f:List Cl} (hf:am f) (hlen:f.length<4294967296) (ret:Int→Option S):mH k f ret=ret (fS f):=by
 simp only [mH,DS]
 exact ZU hk ret hf hlen f [] k 0 rfl (by omega) (by decide)
theorem YB (s:Int) (i:Nat) (hi:i<24):bo s (i:Int)=s.toNat.testBit i:=by
 grind [bo]
theorem aaK (hk:Fu k) (ret:Int→Option S) (rec0:List Int→Int→Option S) {l:List Cl} (hl:am l) (hlen:l.length<4294967296) (o:List Int) (ho:o.length≤64) (i:Nat) (hi:i<24):
  ∀ (r p:List Cl) (m:Nat) (b:Bool),l=p++r→r.length<m→lA k ret rec0 l o (i:Int) m b (p.length:Int)=rec0 (if b||h8 r i then o++[(i:Int)] else o) ((i+1:Nat):Int):=by
 intro r
 induction r with
 |nil=>
  grind [al,lA,tV,ad,h8,c5,ai,aL]
 |cons x r ih=>
  intro p m b e hm
  obtain ⟨m,rfl,hm'⟩:=al hm
  obtain ⟨e1,e2,e3,e4⟩:=ay e (by omega)
  have hx:aM x:=hl x (by grind)
  have eu:h8 (x::r) i=((x.pos.toNat.testBit i||x.neg.toNat.testBit i)||h8 r i):=by rfl
  simp only [lA,tV,e1,ai,e2,Option.bind_some,ak hk,gi hk hx.1,gi hk hx.2,YB _ _ hi,e3,eu]
  cases b<;>grind [ai,ad]
def lc (f:List Cl) (n:Nat):List Nat:=(List.range n).filter (h8 f)
theorem aaJ (hk:Fu k) (ret:Int→Option S) {f:List Cl} (hf:am f) (hlen:f.length<1073741824): ∀ (d i m:Nat),i+d=24→d<m→j4 k ret f m (ints (lc f i)) (i:Int)=ret ((bX (lc f 24):Nat):Int):=by
 have hl: ∀n,n≤24→(lc f n).length≤24:=fun n hn=>by
  grind [lc]
 intro d
 induction d with
 |zero=>
  intro i m e hm
  obtain ⟨m,rfl,hm'⟩:=al hm
  have:i=24:=by omega
  subst this
  simp only [j4,px,aO,ak hk]
  rw [if_neg (by omega),oQ hk _ (by grind) fun x hx=>by
   have:=(List.mem_filter.1 hx).1;grind]
 |succ d ih=>
  intro i m e hm
  obtain ⟨m,rfl,hm'⟩:=al hm
  have hk':4294967296≤k:=hk
  have hli:=hl i (by omega)
  simp only [j4,px,aO]
  rw [if_pos (by omega)]
  have:=aaK hk ret (j4 k ret f m) hf (by omega) (ints (lc f i)) (by rw [dT];omega) i (by omega) f [] k false rfl (by omega)
  simp only [List.length_nil] at this
  rw [show (0:Int)=((0:Nat):Int) from rfl,this,Bool.false_or,←ih (i+1) m (by omega) (by omega)]
  grind [lc,List.range_succ,ints]
theorem Nm (hk:Fu k) {f:List Cl} (hf:am f) (hlen:f.length<1073741824) (ret:Int→Option S):qy k f ret=ret (fS f):=by
 simp only [qy,Eg]
 have:=aaJ hk ret hf hlen 24 0 k (by omega) (by omega)
 refine Eq.trans this ?_
 congr 2
 apply Nat.eq_of_testBit_eq
 grind [mm,lc,List.nodup_range,Az]
def cG (f:List Cl) (d:Int):Bool:=decide (∀i∈bz (eQ f),(i:Int)<d)
theorem Nx (hk:Fu k) {f:List Cl} {d:Int} (hf:am f) (hlen:f.length<4294967296) (hd:0≤d) (hd':d<9223372036854775808) (ret:Bool→Option S):jJ k f d ret=ret (cG f d):=by
 simp only [jJ,Pz,aO,ak hk,Dh hk hf hlen]
 by_cases h:d≥24
 ·grind [cG,mem_bitsN]
 ·rw [if_neg h]
  obtain ⟨n,rfl⟩: ∃n:Nat,d=n:=⟨d.toNat,by omega⟩
  rw [gn n (by omega),uG (by omega),Int.toNat_natCast,Nat.min_eq_left (by omega)]
  congr 1
  rw [fS,AW,cG,Bool.eq_iff_iff]
  simp only [beq_iff_eq,decide_eq_true_eq]
  have hdiv:(eQ f/2^n=0)↔eQ f<2^n:=Nat.div_eq_zero_iff_lt (Nat.two_pow_pos n)
  constructor
  ·grind [mem_bitsN,Nat.lt_of_lt_of_le,Nat.pow_le_pow_right,Nat.testBit_lt_two_pow]
  ·intro h0
   have:eQ f<2^n:=by
    apply Nat.lt_pow_two_of_testBit
    grind [mem_bitsN,my,Ay]
   omega
theorem Vg (m:Nat):(bz m).Pairwise (· < ·):=List.Pairwise.filter _ List.pairwise_lt_range
theorem Nd (hk:Fu k) {f:List Cl} {d:Int} (hf:am f) (hlen:f.length<1073741824) (ret:Bool→Option S):qC k f d ret=ret (cG f d):=by
 have hlt:=Ay f
 simp only [qC,O7,ak hk,Nm hk hf hlen,fS,oP hk (show eQ f<4294967296 by omega),dT]
 have hs:=Vg (eQ f)
 have hl:=fb (eQ f)
 unfold cG
 generalize bz (eQ f)=l at hs hl
 by_cases h0:l=[]
 ·simp_all [ai]
 ·have hpos:0<l.length:=List.length_pos_iff.2 h0
  have hb:((l.length:Int)==0)=false:=by grind
  have e1:(l.length:Int)-1=((l.length-1:Nat):Int):=by omega
  rw [hb,ad,c5 (by omega) (by omega),e1,qY,A9,List.getElem?_eq_getElem (by omega)]
  simp only [Option.map_some,Option.bind_some]
  congr 1
  rw [Bool.eq_iff_iff,decide_eq_true_eq,decide_eq_true_eq]
  constructor
  ·intro h i hi
   obtain ⟨j,hj,rfl⟩:=List.getElem_of_mem hi
   have:l[j]≤l[l.length-1]:=by
    grind [List.pairwise_iff_getElem]
   grind
  grind
end Go.Proofs.YtehekgbehghgdaaGreatDoor
namespace Go.Proofs.YtehekgbehghgdaaGreatDoor
open Go PI
set_option linter.unusedVariables false
set_option linter.unusedSimpArgs false
set_option maxRecDepth 20000
variable {S:Type} {k:Nat}
def ju (c:Cl):Bool:= !bu c
def cW (l:List Cl):List Cl:=l.filter ju
def cm (f:List Cl):Bool:=be f&&f.all fun c=> !bu c
def RFa (f:List Cl):Prop:=RF f∧ ∀c∈f,bu c=false
theorem mg {f:List Cl} (h:am f):cm f=true↔RFa f:=by
 grind [cm,RFa,eI]
theorem RFa.right {f:List Cl} (h:RFa f):cm f=true:=(mg h.1.2).2 h
theorem FC {l:List Cl} (h: ∀c∈l,bu c=false):cW l=l:=List.filter_eq_self.2 fun c hc=>by grind [ju]
theorem zQ {l:List Cl} {c:Cl} (h:c∈cW l):c∈l∧bu c=false:=by
 have:=List.mem_filter.1 h
 grind [ju]
theorem FE {l:List Cl} (h:am l):am (cW l):=fun c hc=>h c (zQ hc).1
theorem HP {l:List Cl} (hl:am l) (hc: ∀c∈l,bu c=false) (h:(aY l).2=0):RFa (aY l).1:=by
 refine ⟨og hl h,fun c hcm=> ?_⟩
 grind [aY,mem_mins]
theorem C6:RFa []:=⟨oE,fun c hc=>by cases hc⟩
theorem xK {c:Cl} (h:RC c) (h':bu c=false):RFa [c]:=⟨gh h,fun d hd=>by grind⟩
theorem FD (l:List Cl):(cW l).length≤l.length:=List.length_filter_le _ _
theorem ZQ (hk:Fu k) (ret:Int→Option S) {l:List Cl} (hl:am l) (hlen:l.length<2147483648):
  ∀ (r p:List Cl) (m:Nat),l=p++r→r.length<m→ ∃v:Int,decide (v≥0)=r.any bu∧n7 k ret l m (p.length:Int)=ret v:=by
 intro r
 induction r with
 |nil=>
  intro p m h hm
  obtain ⟨m,rfl,hm'⟩:=al hm
  exact ⟨-1,rfl,by grind [n7,ut,ad]⟩
 |cons x r ih=>
  intro p m h hm
  obtain ⟨m,rfl,hm'⟩:=al hm
  obtain ⟨e1,e2,e3,e4⟩:=ay h (by omega)
  have hx:aM x:=hl x (by grind)
  obtain ⟨v,hv,hr⟩:=ih (p++[x]) m e4 hm'
  grind [n7,ut,ai,ak,M4,ad]
theorem Di (hk:Fu k) {f:List Cl} (hf:am f) (hlen:f.length<2147483648) (ret:Bool→Option S):mF k f ret=ret (cm f):=by
 obtain ⟨v,hv,hr⟩:=ZQ hk (fun r1:Int=>(fun r2:Bool=>ret (!r2)) (decide (r1≥0))) hf hlen f [] k rfl (by omega)
 simp only [mF,N9,ak hk,oM hk hf hlen,Ap,Pn,Ar,EK]
 grind [cm,be,ai,ad]
theorem aat (hk:Fu k) (ret:Bool→Option S) {l:List Cl} (hl: ∀c∈l,RC c) (hlen:l.length<2147483648):
  ∀ (r p:List Cl) (m:Nat),l=p++r→r.length<m→nR k ret l m (p.length:Int)=ret (r.all fun c=> !bu c):=by
 intro r
 induction r with
 |nil=>
  grind [al,nR,t8,ad]
 |cons x r ih=>
  intro p m h hm
  obtain ⟨m,rfl,hm'⟩:=al hm
  obtain ⟨e1,e2,e3,e4⟩:=ay h (by omega)
  have hx:RC x:=hl x (by grind)
  grind [nR,t8,ai,ak,Nj,ad]
theorem ml (hk:Fu k) {f:List Cl} (hf:am f) (hlen:f.length<2147483648) (ret:Bool→Option S):gE k f ret=ret (cm f):=by
 simp only [gE,Er,ak hk,fE hk hf hlen]
 unfold cm
 cases hr:be f with
 |true=>
  have h:=(eI hf).1 hr
  rw [Bool.not_true,ad,Bool.true_and]
  exact aat hk ret (fun c hc=>h.rc hc) hlen f [] k rfl (by omega)
 |false=>rfl
def fz (l:List Cl):List Cl×Int:=aY (cW l)
def eD (f:List Cl):List Cl×Int:=if be f then fz f else ([],2)
def eX (f:List Cl):List Cl×Int:=if be f then if (cx f).2=0 then fz (cx f).1 else ([],(cx f).2) else ([],2)
theorem BE {l:List Cl} (hl:am l) (h:(fz l).2=0):RFa (fz l).1:=HP (FE hl) (fun c hc=>(zQ hc).2) h
theorem Cf {f:List Cl} (h:(eD f).2=0) (hf:am f):RFa (eD f).1:=by
 grind [eD,BE]
theorem Cg {f:List Cl} (h:(eX f).2=0) (hf:am f):RFa (eX f).1:=by
 unfold eX at h ⊢
 split
 ·next hr=>
  rw [if_pos hr] at h
  split
  ·next h0=>rw [if_pos h0] at h;exact BE (gW h0).2 h
  grind
 grind
theorem M_ (hk:Fu k) {c:Cl} (hc:aM c) (ret:Cl×Bool→Option S):qj k c ret=ret (c,ju c):=by
 simp only [qj,N_,ak hk,M4 hk hc];rfl
theorem aac (hk:Fu k) (ret:List Cl→Option S) {l:List Cl} (hl:am l) (hlen:l.length<2147483648):
  ∀ (r p:List Cl) (m:Nat) (o:List Cl),l=p++r→r.length<m→o.length+r.length<4294967296→nx k ret l m (p.length:Int) o=ret (o++cW r):=by
 intro r
 induction r with
 |nil=>
  grind [al,nx,tx,ad,cW]
 |cons x r ih=>
  intro p m o h hm ho
  obtain ⟨m,rfl,hm'⟩:=al hm
  obtain ⟨e1,e2,e3,e4⟩:=ay h (by omega)
  have hx:aM x:=hl x (by grind)
  simp only [List.length_cons] at ho
  simp only [nx,tx,e1,ai,e2,Option.bind_some,ak hk,M_ hk hx,e3]
  grind [ai,aL,cW,ad]
theorem ad2 (hk:Fu k) {l:List Cl} (hl:am l) (hlen:l.length<2147483648) (ret:List Cl→Option S):uY k l ret=ret (cW l):=by
 simp only [uY,DQ]
 have:=aac hk ret hl hlen l [] k [] rfl (by omega) (by grind)
 grind
theorem Na (hk:Fu k) {f:List Cl} (hf:am f) (hlen:f.length<2147483648) (ret:List Cl×Int→Option S):qi k f ret=ret (eD f):=by
 have:=FD f
 simp only [qi,N7,ak hk,oM hk hf hlen,ad2 hk hf hlen,jj hk (FE hf) (show (cW f).length<2147483648 by omega)]
 unfold eD
 cases be f with
 |true=>rfl
 |false=>rfl
theorem adX (hk:Fu k) {f:List Cl} (hf:am f) (hlen:f.length<2147483648) (ret:List Cl×Int→Option S):uT k f ret=ret (eX f):=by
 simp only [uT,N8,ak hk,adU hk hf hlen,bQ]
 unfold eX
 cases be f with
 |true=>
  rw [if_pos rfl,if_pos rfl]
  by_cases h0:(cx f).2=0
  ·have hr:=gW h0
   rw [decide_eq_true h0,Bool.not_true,ad,if_pos h0,Na hk hr.2 hr.lt]
   unfold eD
   rw [if_pos hr.right]
  grind [ai]
 |false=>
  rfl
theorem aau (hk:Fu k) (ret:List Cl×Int→Option S) {l:List Cl} (hl: ∀c∈l,RC c) (hlen:l.length<1073741824):
  ∀ (r p:List Cl) (m:Nat) (o:List Cl),l=p++r→r.length<m→am o→o.length+r.length<2147483648→nS k ret l m o (p.length:Int)=ret (aY (o++cW r)):=by
 intro r
 induction r with
 |nil=>
  grind [al,nS,t_,ad,cW,ak,mj]
 |cons x r ih=>
  intro p m o h hm hok ho
  obtain ⟨m,rfl,hm'⟩:=al hm
  obtain ⟨e1,e2,e3,e4⟩:=ay h (by omega)
  have hx:RC x:=hl x (by grind)
  simp only [List.length_cons] at ho
  simp only [nS,t_,e1,ai,e2,Option.bind_some,ak hk,Nj hk hx,e3]
  cases hb:bu x with
  |false=>
   rw [Bool.not_false,ai,aL (by grind),ih (p++[x]) m (o++[x]) e4 hm' (eb hok fun c hc=>by simp at hc;subst hc;exact hx.ok) (by grind)]
   grind [cW,ju]
  |true=>
   grind [ad,cW,ju]
theorem xV (hk:Fu k) {l:List Cl} (hl: ∀c∈l,RC c) (hlen:l.length<1073741824) (ret:List Cl×Int→Option S):k_ k l ret=ret (fz l):=by
 simp only [k_,Es]
 have:=aau hk ret hl hlen l [] k [] rfl (by omega) (fun c hc=>by cases hc) (by grind)
 grind [fz]
theorem aeo (hk:Fu k) {f:List Cl} (hf:am f) (hlen:f.length<1073741824) (ret:List Cl×Int→Option S):vq k f ret=ret (eD f):=by
 simp only [vq,O1,ak hk,fE hk hf (show f.length<2147483648 by omega)]
 unfold eD
 cases hr:be f with
 |true=>
  have h:=(eI hf).1 hr
  rw [Bool.not_true,ad,if_pos rfl,xV hk (fun c hc=>h.rc hc) hlen]
 |false=>rfl
theorem aep (hk:Fu k) {f:List Cl} (hf:am f) (hlen:f.length<2147483648) (ret:List Cl×Int→Option S):qz k f ret=ret (eX f):=by
 simp only [qz,O2,ak hk,Nq hk hf hlen,bQ]
 unfold eX
 cases be f with
 |true=>
  rw [if_pos rfl,if_pos rfl]
  by_cases h0:(cx f).2=0
  ·have hr:=gW h0
   rw [decide_eq_true h0,Bool.not_true,ad,if_pos h0,xV hk (fun c hc=>hr.rc hc) (by have:=hr.len;omega)]
  grind [ai]
 |false=>
  rfl
def dW (f g:List Cl):List Cl×Int:=fz (meets f g)
def Bb (f g:List Cl):List Cl×Int:=if cm f&&cm g then ck f g else ([],2)
theorem adZ (hk:Fu k) {f g:List Cl} (hf:am f) (hg:am g) (h1:f.length<1073741824) (h2:g.length<1073741824) (ret:List Cl×Int→Option S):uW k f g ret=ret (ck f g):=by
 simp only [uW,Oc,ak hk,List.nil_append]
 rw [aL (by grind),aL (by omega),jj hk (eb hf hg) (by grind)]
 rfl
theorem YQ {f g:List Cl} (hf: ∀c∈f,bu c=false) (hg: ∀c∈g,bu c=false):fz (f++g)=ck f g:=by
 grind [fz,ck,FC]
theorem wq {f g:List Cl} (hf:RFa f) (hg:RFa g) (h:(ck f g).2=0):RFa (ck f g).1:=
 HP (eb hf.1.2 hg.1.2) (fun c hc=>by
  rcases List.mem_append.1 hc with h|h
  ·exact hf.2 c h
  ·exact hg.2 c h) h
theorem aem (hk:Fu k) {f g:List Cl} (hf:am f) (hg:am g) (h1:f.length<268435456) (h2:g.length<268435456) (ret:List Cl×Int→Option S):fh k f g ret=ret (Bb f g):=by
 simp only [fh,O0,ak hk,ml hk hf (show f.length<2147483648 by omega),ml hk hg (show g.length<2147483648 by omega),List.nil_append]
 unfold Bb
 cases hr:cm f with
 |true=>
  rw [Bool.not_true,ad,Bool.true_and]
  cases hr2:cm g with
  |true=>
   have hf':=(mg hf).1 hr
   have hg':=(mg hg).1 hr2
   rw [Bool.not_true,ad,if_pos rfl,aL (by grind),aL (by omega),xV hk (fun c hc=>by
    rcases List.mem_append.1 hc with h|h
    ·exact hf'.1.rc h
    ·exact hg'.1.rc h) (by grind),YQ hf'.2 hg'.2]
  |false=>rfl
 |false=>rfl
theorem adW (hk:Fu k) {b c:Cl} (hb:aM b) (hc:aM c) (ret:Cl×Bool→Option S):uZ k b c ret=ret (dE c b,ju (dE c b)):=by
 simp_all [uZ,Od,ak,Dg,M_,wN]
theorem aad (hk:Fu k) (ret:List Cl→Option S) {c:Cl} (hc:aM c) {l:List Cl} (hl:am l) (hlen:l.length<2147483648):
  ∀ (r p:List Cl) (m:Nat) (o:List Cl),l=p++r→r.length<m→o.length+r.length<4294967296→nw k ret c l m (p.length:Int) o=ret (o++cW (r.map (dE c))):=by
 intro r
 induction r with
 |nil=>
  intro p m o h hm ho
  obtain ⟨m,rfl,hm'⟩:=al hm
  grind [nw,tw,ad,cW]
 |cons x r ih=>
  intro p m o h hm ho
  obtain ⟨m,rfl,hm'⟩:=al hm
  obtain ⟨e1,e2,e3,e4⟩:=ay h (by omega)
  have hx:aM x:=hl x (by grind)
  simp only [List.length_cons] at ho
  simp only [nw,tw,e1,ai,e2,Option.bind_some,ak hk,adW hk hx hc,e3]
  cases hb:ju (dE c x)<;>grind [ai,aL,cW,ad]
theorem ad3 (hk:Fu k) {c:Cl} (hc:aM c) {l:List Cl} (hl:am l) (hlen:l.length<2147483648) (ret:List Cl→Option S):uX k l c ret=ret (cW (l.map (dE c))):=by
 simp only [uX,DP]
 have:=aad hk ret hc hl hlen l [] k [] rfl (by omega) (by grind)
 grind
theorem Z5 (hk:Fu k) (ret:List Cl×Int→Option S) {g f:List Cl} (hf:am f) (hg:am g) (hlf:f.length<32768) (hlg:g.length<32768):
  ∀ (r p:List Cl) (m:Nat) (o:List Cl),f=p++r→r.length<m→am o→o.length+r.length*g.length<1073741825→ny k ret g f m (p.length:Int) o=ret (aY (o++cW (meets r g))):=by
 intro r
 induction r with
 |nil=>
  intro p m o h hm hok ho
  obtain ⟨m,rfl,hm'⟩:=al hm
  grind [ny,tz,ad,ak,jj,meets,cW]
 |cons x r ih=>
  intro p m o h hm hok ho
  obtain ⟨m,rfl,hm'⟩:=al hm
  obtain ⟨e1,e2,e3,e4⟩:=ay h (by omega)
  have hx:aM x:=hf x (by grind)
  have hmul:(x::r).length*g.length=r.length*g.length+g.length:=by grind
  rw [hmul] at ho
  have hcl:=FD (g.map (dE x))
  rw [List.length_map] at hcl
  simp only [ny,tz,e1,ai,e2,Option.bind_some,ak hk,ad3 hk hx hg (show g.length<2147483648 by omega),e3]
  rw [aL (by omega),ih (p++[x]) m _ e4 hm' (eb hok fun c hc=>by
   obtain ⟨b,hb,rfl⟩:=List.mem_map.1 (zQ hc).1
   exact wN hx (hg b hb)) (by grind)]
  grind [cW,meets]
theorem ad0 (hk:Fu k) {f g:List Cl} (hf:am f) (hg:am g) (h1:f.length<32768) (h2:g.length<32768) (ret:List Cl×Int→Option S):mG k f g ret=ret (dW f g):=by
 simp only [mG,DR]
 have hb:f.length*g.length<1073741824:=Nat.lt_of_le_of_lt (Nat.mul_le_mul (Nat.le_of_lt_succ h1) (Nat.le_of_lt_succ h2)) (by decide)
 have:=Z5 hk ret hf hg h1 h2 f [] k [] rfl (by omega) (fun c hc=>by cases hc) (by grind)
 grind [dW,fz]
theorem aaw (hk:Fu k) (ret:List Cl×Int→Option S) (rec0:List Cl→Int→Option S) {x:Cl} (hx:RC x) {g f:List Cl} {v:Int} (hfx:ae f v=some x) (hg: ∀c∈g,RC c) (hlen:g.length<65536):
  ∀ (r p:List Cl) (m:Nat) (o:List Cl),g=p++r→r.length<m→o.length+r.length<1099511627776→lE k ret rec0 f g v m o (p.length:Int)=rec0 (o++r.map (dE x)) (IntKind.wrap .i64 (v+1)):=by
 intro r
 induction r with
 |nil=>
  intro p m o h hm ho
  obtain ⟨m,rfl,hm'⟩:=al hm
  grind [lE,t6,ad]
 |cons y r ih=>
  intro p m o h hm ho
  obtain ⟨m,rfl,hm'⟩:=al hm
  obtain ⟨e1,e2,e3,e4⟩:=ay h (by omega)
  have hy:RC y:=hg y (by grind)
  simp only [List.length_cons] at ho
  simp only [lE,t6,e1,ai,e2,hfx,Option.bind_some,ak hk,Nk hk hx hy,e3]
  grind [aL]
theorem aav (hk:Fu k) (ret:List Cl×Int→Option S) {g f:List Cl} (hf: ∀c∈f,RC c) (hg: ∀c∈g,RC c) (hlf:f.length<32768) (hlg:g.length<32768):
  ∀ (r p:List Cl) (m:Nat) (o:List Cl),f=p++r→r.length<m→(∀c∈o,RC c)→o.length+r.length*g.length<1073741824→j7 k ret f g m o (p.length:Int)=ret (fz (o++meets r g)):=by
 intro r
 induction r with
 |nil=>
  grind [al,j7,pA,ad,ak,xV,meets]
 |cons x r ih=>
  intro p m o h hm hok ho
  obtain ⟨m,rfl,hm'⟩:=al hm
  obtain ⟨e1,e2,e3,e4⟩:=ay h (by omega)
  have hx:RC x:=hf x (by grind)
  have hmul:(x::r).length*g.length=r.length*g.length+g.length:=by grind
  rw [hmul] at ho
  have hk':4294967296≤k:=hk
  simp only [j7,pA,e1,ai]
  have:=aaw hk ret (j7 k ret f g m) hx e2 hg (by omega) g [] k o rfl (by omega) (by omega)
  grind [Jw,meets]
theorem aen (hk:Fu k) {f g:List Cl} (hf:RFa f) (hg:RFa g) (ret:List Cl×Int→Option S):jH k f g ret=ret (dW f g):=by
 have l1:=hf.1.len;have l2:=hg.1.len
 simp only [jH,Eo,ak hk,ml hk hf.1.2 hf.1.lt,ml hk hg.1.2 hg.1.lt,hf.right,hg.right,Bool.not_true,ad]
 have hb:f.length*g.length≤64*64:=Nat.mul_le_mul l1 l2
 have:=aav hk ret (fun c hc=>hf.1.rc hc) (fun c hc=>hg.1.rc hc) (by omega) (by omega) f [] k [] rfl (by omega) (fun c hc=>by cases hc) (by grind)
 grind [dW]
theorem rZ {f g:List Cl} (hf:am f) (hg:am g) (h:(dW f g).2=0):RFa (dW f g).1:=BE (Jx hf hg) h
theorem YC {c:Cl} {i:Int} (h:bu c=false) (hp:bo c.pos i=true):bo c.neg i=false:=by
 cases hn:bo c.neg i with
 |false=>rfl
 |true=>
  exfalso
  unfold bo at hp hn
  rw [Bool.and_eq_true] at hp hn
  unfold bu at h
  rw [Bool.not_eq_false',decide_eq_true_eq] at h
  have:(c.pos.toNat&&&c.neg.toNat).testBit i.toNat=true:=by grind
  grind
theorem PZ {s i:Int} {j:Nat} (h:(cZ s i).toNat.testBit j=true):s.toNat.testBit j=true:=by
 grind [cZ,Int.toNat_natCast,kf]
theorem Vm {c:Cl}:bu c=false↔ ∀j,¬ (c.pos.toNat.testBit j=true∧c.neg.toNat.testBit j=true):=by
 unfold bu
 rw [Bool.not_eq_false',decide_eq_true_eq]
 constructor
 ·intro h j ⟨h1,h2⟩
  have:(c.pos.toNat&&&c.neg.toNat).testBit j=true:=by grind
  grind
 ·intro h
  apply Nat.eq_of_testBit_eq
  grind
theorem wi {c:Cl} {i:Int} (h:bu c=false):bu (bR i c)=false:=by
 rw [Vm] at h ⊢
 exact fun j ⟨h1,h2⟩=>h j ⟨PZ h1,PZ h2⟩
def dP (i:Int) (c:Cl) (h:List Cl) (q:List Cl×Int):List Cl×Int:=
 if q.2=0 then if (dW [bR i c] q.1).2=0 then ck h (dW [bR i c] q.1).1 else ([],(dW [bR i c] q.1).2) else ([],q.2)
def b8 (i:Int) (r h:List Cl) (c:Cl):List Cl×Int:=
 if bo c.pos i then dP i c h (eD r) else if bo c.neg i then dP i c h (eX r) else ck h [bR i c]
def gb (f:List Cl) (i:Int) (r:List Cl):List Cl×Int:=if cm f&&be r&&jL i then a8 (b8 i r) [] f else ([],2)
theorem JX {i:Int} {c:Cl} {h:List Cl} {q:List Cl×Int} (hh:RFa h) (hq:q.2=0→RFa q.1) (h0:(dP i c h q).2=0):RFa (dP i c h q).1:=by
 unfold dP at h0 ⊢
 split
 ·next h1=>
  rw [if_pos h1] at h0
  split
  ·next h2=>rw [if_pos h2] at h0;exact wq hh (rZ (gh (iN i c)).2 (hq h1).1.2 h2) h0
  grind
 grind
theorem acy {i:Int} {r h:List Cl} {c:Cl} (hr:RF r) (hh:RFa h) (hc:bu c=false) (h0:(b8 i r h c).2=0):RFa (b8 i r h c).1:=by
 unfold b8 at h0 ⊢
 split
 ·next h1=>rw [if_pos h1] at h0;exact JX hh (fun h=>Cf h hr.2) h0
 ·next h1=>
  rw [if_neg h1] at h0
  split
  ·next h2=>rw [if_pos h2] at h0;exact JX hh (fun h=>Cg h hr.2) h0
  grind [wq,xK,iN,wi]
theorem Yl {i:Int} {r:List Cl} (hr:RF r): ∀ {l h:List Cl},(∀c∈l,bu c=false)→RFa h→(a8 (b8 i r) h l).2=0→RFa (a8 (b8 i r) h l).1:=by
 intro l
 induction l<;>grind [a8,acy]
theorem acB {f r:List Cl} {i:Int} (hf:am f) (hr:am r) (h:(gb f i r).2=0):RFa (gb f i r).1:=by
 unfold gb at h ⊢
 split
 ·next hc=>
  rw [if_pos hc] at h
  simp only [Bool.and_eq_true] at hc
  exact Yl ((eI hr).1 hc.1.2) ((mg hf).1 hc.1.1).2 C6 h
 grind
theorem Yc (hk:Fu k) (ret:List Cl×Int→Option S) (rec0:Int→List Cl→Option S) (i:Int) (r f:List Cl) {h:List Cl} {v:Int} {g:List Cl} {e:Int} (hh:RF h) (hg:e=0→RF g):
  nu k ret rec0 i r f v h k g e=if e=0 then if (ck h g).2=0 then rec0 (IntKind.wrap .i64 (v+1)) (ck h g).1 else ret ([],(ck h g).2) else ret ([],e):=by
 obtain ⟨q,hq⟩: ∃q,k=q+1:=⟨k-1,by omega⟩
 have: ∀j,j=q+1→nu k ret rec0 i r f v h j g e=tv k ret i r f v h rec0 g e:=by rintro j rfl;rfl
 rw [this k hq]
 simp only [tv,bQ]
 by_cases h0:e=0
 ·have l1:=hh.len;have l2:=(hg h0).len
  rw [decide_eq_true h0,ai,if_pos h0,ak hk,adZ hk hh.2 (hg h0).2 (by omega) (by omega)]
  grind [ad,ai]
 grind [ad,ai]
theorem Z6 (hk:Fu k) (ret:List Cl×Int→Option S) {i:Int} {q:List Cl} (hq:RF q) {l:List Cl} (hl:am l) (hc: ∀c∈l,bu c=false) (hlen:l.length<2147483648):
  ∀ (r p:List Cl) (m:Nat) (h:List Cl),l=p++r→r.length<m→RFa h→jX k ret i q l m (p.length:Int) h=ret (a8 (b8 i q) h r):=by
 intro r
 induction r with
 |nil=>
  intro p m h e hm hh
  obtain ⟨m,rfl,hm'⟩:=al hm
  simp only [jX,pm,cv e,ad];rfl
 |cons x r ih=>
  intro p m h e hm hh
  obtain ⟨m,rfl,hm'⟩:=al hm
  obtain ⟨e1,e2,e3,e4⟩:=ay e (by omega)
  have hx:aM x:=hl x (by grind)
  have hxc:bu x=false:=hc x (by grind)
  have hg:=xK (iN i x) (wi hxc)
  have key: ∀ (g:List Cl) (e:Int),(e=0→RFa g)→(b8 i q h x=if e=0 then ck h g else ([],e))→nu k ret (jX k ret i q l m) i q l (p.length:Int) h k g e=ret (a8 (b8 i q) h (x::r)):=by
   intro g e hge hput
   rw [Yc hk _ _ _ _ _ hh.1 (fun h=>(hge h).1),a8,hput]
   grind [wq]
  have em: ∀ (s:List Cl),RF s→ ∀ (f:List Cl×Int→Option S),mG k [Cl.mk (cZ x.pos i) (cZ x.neg i)] s f=f (dW [bR i x] s):=fun s hs f=>ad0 hk hg.1.2 hs.2 (by simp) (by have:=hs.len;omega) f
  simp only [jX,pm,e1,ai,e2,Option.bind_some,ak hk,sO hk hx.1,sO hk hx.2,oL hk hx.1,oL hk hx.2,Na hk hq.2 hq.lt,adX hk hq.2 hq.lt,bQ]
  cases hp:bo x.pos i with
  |true=>
   rw [ai]
   by_cases h1:(eD q).2=0
   ·have ho:=Cf h1 hq.2
    rw [decide_eq_true h1,ai,em _ ho.1]
    exact key _ _ (fun h0=>rZ hg.1.2 ho.1.2 h0) (by grind [b8,dP])
   grind [ad,b8,dP]
  |false=>
   rw [ad]
   cases hn:bo x.neg i with
   |true=>
    rw [ai]
    by_cases h1:(eX q).2=0
    ·have ho:=Cg h1 hq.2
     rw [decide_eq_true h1,ai,em _ ho.1]
     exact key _ _ (fun h0=>rZ hg.1.2 ho.1.2 h0) (by grind [b8,dP])
    grind [ad,b8,dP]
   |false=>
    grind [ad,bR,b8]
theorem adY (hk:Fu k) {f r:List Cl} {i:Int} (hf:am f) (hr:am r) (h1:f.length<2147483648) (h2:r.length<2147483648) (ret:List Cl×Int→Option S):uU k f i r ret=ret (gb f i r):=by
 simp only [uU,DO,ak hk,Di hk hf h1,adT hk,oM hk hr h2]
 unfold gb jL
 cases ha:cm f with
 |false=>rfl
 |true=>
  rw [Bool.not_true,ad]
  by_cases hd:0≤i∧i<24
  ·rw [decide_eq_true hd,Bool.not_true,ad]
   cases hb:be r with
   |false=>rfl
   |true=>
    rw [Bool.not_true,ad]
    exact Z6 hk ret ((eI hr).1 hb) hf ((mg hf).1 ha).2 h1 f [] k [] rfl (by omega) C6
  grind [ai]
theorem abE {i:Int} {c:Cl} (h:bu c=false):dW [bR i c] [⟨0,0⟩]=([bR i c],0):=by
 have e:meets [bR i c] [⟨0,0⟩]=[bR i c]:=by
  grind [bR,E6,dE,dN,Int.toNat_of_nonneg,meets]
 unfold dW fz
 rw [e,FC fun d hd=>by grind [wi]]
 exact (gh (iN i c)).1
theorem aax (hk:Fu k) (ret:List Cl×Int→Option S) {i:Int} {q:List Cl} (hq:RF q) {l:List Cl} (hl:am l) (hc: ∀c∈l,bu c=false) (hlen:l.length<2147483648):
  ∀ (r p:List Cl) (m:Nat) (h:List Cl),l=p++r→r.length<m→RFa h→lG k ret l i q m h (p.length:Int)=ret (a8 (b8 i q) h r):=by
 intro r
 induction r with
 |nil=>
  intro p m h e hm hh
  obtain ⟨m,rfl,hm'⟩:=al hm
  simp only [lG,t7,cv e,ad];rfl
 |cons x r ih=>
  intro p m h e hm hh
  obtain ⟨m,rfl,hm'⟩:=al hm
  obtain ⟨e1,e2,e3,e4⟩:=ay e (by omega)
  have hx:aM x:=hl x (by grind)
  have hxc:bu x=false:=hc x (by grind)
  have hg:=xK (iN i x) (wi hxc)
  have lh:=hh.1.len
  have em: ∀ (s:List Cl),RFa s→ ∀ (f:List Cl×Int→Option S),jH k [Cl.mk (cZ x.pos i) (cZ x.neg i)] s f=f (dW [bR i x] s):=fun s hs f=>aen hk hg hs f
  have ej: ∀ (s:List Cl),RFa s→ ∀ (f:List Cl×Int→Option S),fh k h s f=f (ck h s):=fun s hs f=>by
   have ls:=hs.1.len
   rw [aem hk hh.1.2 hs.1.2 (by omega) (by omega)]
   unfold Bb
   rw [hh.right,hs.right];rfl
  have key: ∀ (g:List Cl),RFa g→b8 i q h x=ck h g→(fh k h g fun r10=>ab (!decide (r10.2=0)) (ret ([],r10.2)) (lG k ret l i q m r10.1 ((p++[x]).length:Int)))=ret (a8 (b8 i q) h (x::r)):=by
   grind [a8,ad,wq,ai]
  have bad: ∀ (e:Int),e≠0→b8 i q h x=([],e)→ret ([],e)=ret (a8 (b8 i q) h (x::r)):=by
   grind [a8]
  simp only [lG,t7,e1,ai,e2,Option.bind_some,ak hk,xW hk hx.1,xW hk hx.2,gi hk hx.1,gi hk hx.2,aeo hk hq.2 (show q.length<1073741824 by have:=hq.len;omega),aep hk hq.2 hq.lt,bQ,e3]
  cases hp:bo x.pos i with
  |true=>
   rw [ai,YC hxc hp,ad]
   by_cases h1:(eD q).2=0
   ·have ho:=Cf h1 hq.2
    rw [decide_eq_true h1,ai,em _ ho]
    by_cases h2:(dW [bR i x] (eD q).1).2=0
    ·rw [decide_eq_true h2,ai]
     exact key _ (rZ hg.1.2 ho.1.2 h2) (by grind [b8,dP])
    grind [ad,ai,b8,dP]
   grind [ad,ai,b8,dP]
  |false=>
   rw [ad]
   cases hn:bo x.neg i with
   |true=>
    rw [ai]
    by_cases h1:(eX q).2=0
    ·have ho:=Cg h1 hq.2
     rw [decide_eq_true h1,ai,em _ ho]
     by_cases h2:(dW [bR i x] (eX q).1).2=0
     ·rw [decide_eq_true h2,ai]
      exact key _ (rZ hg.1.2 ho.1.2 h2) (by grind [b8,dP])
     grind [ad,ai,b8,dP]
    grind [ad,ai,b8,dP]
   |false=>
    rw [ad,em _ (xK mf (by decide)),abE hxc]
    grind [ai,b8]
theorem aeq (hk:Fu k) {f r:List Cl} {i:Int} (hf:am f) (hr:am r) (h1:f.length<2147483648) (h2:r.length<2147483648) (ret:List Cl×Int→Option S):vr k f i r ret=ret (gb f i r):=by
 simp only [vr,Ep,ak hk,ml hk hf h1,fE hk hr h2,aO]
 unfold gb jL
 cases ha:cm f with
 |false=>rfl
 |true=>
  rw [Bool.not_true,ad]
  by_cases h3:i<0
  ·grind
  ·by_cases h4:i≥24
   ·grind
   ·rw [if_neg h3,if_neg h4,decide_eq_true (by omega)]
    cases hb:be r with
    |false=>rfl
    |true=>
     rw [Bool.not_true,ad]
     exact aax hk ret ((eI hr).1 hb) hf ((mg hf).1 ha).2 h1 f [] k [] rfl (by omega) C6
end Go.Proofs.YtehekgbehghgdaaGreatDoor
namespace Go.Proofs.YtehekgbehghgdaaGreatDoor
open Go PI
set_option linter.unusedVariables false
set_option linter.unusedSimpArgs false
mutual
def aG:Tm→Nat
 | .mk _ _ _ _ ks sys=>1+aJ ks+aN sys
def aJ:List Tm→Nat
 |[]=>0
 |t::l=>aG t+aJ l
def aN:List (Br Tm)→Nat
 |[]=>0
 |b::l=>g9 b+aN l
def g9:Br Tm→Nat
 | .mk _ ks=>aJ ks
end
mutual
def ap:Tm→Nat
 | .mk _ _ _ _ ks sys=>max (aK ks) (aS sys)+1
def aK:List Tm→Nat
 |[]=>0
 |t::l=>max (ap t) (aK l)
def aS:List (Br Tm)→Nat
 |[]=>0
 |b::l=>max (jK b) (aS l)
def jK:Br Tm→Nat
 | .mk _ ks=>aK ks
end
theorem sS (b:Br Tm):g9 b=aJ b.kids:=by cases b;rw [g9]
theorem qN (b:Br Tm):jK b=aK b.kids:=by cases b;rw [jK]
theorem Dw (t:Tm):1≤aG t:=by cases t;rw [aG];omega
theorem oN: ∀ {l:List Tm} {x:Tm},x∈l→aG x≤aJ l:=by
 intro l
 induction l<;>grind [aJ]
theorem Du: ∀ {l:List (Br Tm)} {b:Br Tm},b∈l→aJ b.kids≤aN l:=by
 intro l
 induction l<;>grind [aN,sS]
theorem Gb: ∀ {l:List Tm} {x:Tm},x∈l→ap x≤aK l:=by
 intro l
 induction l<;>grind [aK]
theorem VH: ∀ {l:List (Br Tm)} {b:Br Tm},b∈l→aK b.kids≤aS l:=by
 intro l
 induction l<;>grind [aS,qN]
theorem jm {Q:Tm→Prop} (h: ∀kd n nm r ks sys,(∀x∈ks,Q x)→(∀b∈sys,∀x∈b.kids,Q x)→Q (.mk kd n nm r ks sys)) (t:Tm):Q t:=by
 have: ∀m t,aG t≤m→Q t:=by
  intro m
  induction m with
  |zero=>grind [Dw]
  |succ m ih=>
   intro t ht
   cases t with
   |mk kd n nm r ks sys=>
    rw [aG] at ht
    refine h _ _ _ _ _ _ (fun x hx=>ih x ?_) fun b hb x hx=>ih x ?_
    ·have:=oN hx;omega
    ·have:=Du hb;have:=oN hx;omega
 exact this _ t (Nat.le_refl _)
def kidsT:List Int:=[-1,0,0,0,2,1,2,2,2,1,1,3,1,3,2,2,1,1,1,0,0,0,4,1,0,0,1,5,2]
def dL (kd:Int):Int:=if kd<0∨kd>28 then-1 else kidsT.getD kd.toNat 0
def dy (kd i:Int):Int:=if (i=1∧(kd=4∨kd=7))∨(i=0∧(kd=5∨kd=22∨kd=27)) then 1 else 0
def bJ (kd i:Int):Int:=if i=0∧(kd=11∨kd=12∨kd=14) then 1 else 0
def b7 (kd:Int):Int:=if kd=16 then 2 else if kd=15∨kd=17∨kd=18 then 1 else 0
def aw (kd:Int):Int:=if kd=15 then 1 else 0
theorem uB (kd i:Int):0≤dy kd i∧dy kd i≤1:=by grind [dy]
theorem iq (kd i:Int):0≤bJ kd i∧bJ kd i≤1:=by grind [bJ]
theorem dX (kd:Int):0≤aw kd∧aw kd≤1:=by grind [aw]
def jd (c:UInt8):Bool:=(decide (97≤c.toNat)&&decide (c.toNat≤122))||(decide (65≤c.toNat)&&decide (c.toNat≤90))||decide (c.toNat=95)
def m6 (c:UInt8):Bool:=decide (48≤c.toNat)&&decide (c.toNat≤57)
def lU:List UInt8→Bool
 |[]=>false
 |c::l=>jd c&&l.all fun d=>jd d||m6 d
def bZ (kd dims:Int) (b:Br Tm):Bool:=decide ((b.kids.length:Int)=b7 kd)&&(cm b.face&&cG b.face dims)
def dO (vars dims:Int):Tm→Bool
 | .mk kd n nm r ks sys=>
  (decide (dL kd=ks.length)&&(decide (kd=1∨n=0)&&(decide (kd=2∨nm.size=0)&&decide (b7 kd=0→sys.length=0))))&&
  (if kd=1 then decide (r.length=0)&&(decide (0≤n)&&decide (vars<0∨n<vars))
   else if kd=2 then decide (r.length=0)&&lU nm.data.toList
   else if kd=13∨kd=21∨kd=26 then be r&&cG r dims
   else if kd=14 then cm r&&cG r dims
   else sys.all (bZ kd dims)&&decide (r.length=0))
def dx (vars v:Int):Int:=if vars<0 then vars else vars+v
mutual
def bg (bd:Bool) (vars dims:Int):Tm→Bool
 | .mk kd n nm r ks sys=> !(bd&&decide (dims>24))&&(dO vars dims (.mk kd n nm r ks sys)&&(bY bd vars dims kd 0 ks&&c7 bd vars dims kd sys))
def bY (bd:Bool) (vars dims kd:Int) (i:Nat):List Tm→Bool
 |[]=>true
 |t::l=>bg bd (dx vars (dy kd i)) (dims+bJ kd i) t&&bY bd vars dims kd (i+1) l
def c7 (bd:Bool) (vars dims kd:Int):List (Br Tm)→Bool
 |[]=>true
 |b::l=>pg bd vars dims kd b&&c7 bd vars dims kd l
def pg (bd:Bool) (vars dims kd:Int):Br Tm→Bool
 | .mk _ ks=>cV bd vars dims kd ks
def cV (bd:Bool) (vars dims kd:Int):List Tm→Bool
 |[]=>true
 |t::l=>bg bd vars (dims+aw kd) t&&cV bd vars dims kd l
end
def bA (t:Tm):Int:=if ap t>200 then 62 else if aG t>20000 then 221 else if bg false (-1) 24 t then 0 else 100
mutual
def OkT:Tm→Prop
 | .mk kd n nm r ks sys=>(aH kd∧aH n∧nm.size<1073741824∧am r∧r.length<1073741824∧ks.length<1073741824∧sys.length<1073741824)∧bP ks∧bn sys
def bP:List Tm→Prop
 |[]=>True
 |t::l=>OkT t∧bP l
def bn:List (Br Tm)→Prop
 |[]=>True
 |b::l=>jq b∧bn l
def jq:Br Tm→Prop
 | .mk f ks=>(am f∧f.length<1073741824∧ks.length<1073741824)∧bP ks
end
theorem okK_iff: ∀ {l:List Tm},bP l↔ ∀t∈l,OkT t:=by
 intro l
 induction l<;>grind [bP]
theorem lW {b:Br Tm}:jq b↔(am b.face∧b.face.length<1073741824∧b.kids.length<1073741824)∧ ∀t∈b.kids,OkT t:=by
 cases b;rw [jq,okK_iff]
theorem JM: ∀ {l:List (Br Tm)},bn l↔ ∀b∈l,(am b.face∧b.face.length<1073741824∧b.kids.length<1073741824)∧ ∀t∈b.kids,OkT t:=by
 intro l
 induction l<;>grind [bn,lW]
theorem OkT.node {kd n nm r ks sys} (h:OkT (.mk kd n nm r ks sys)):aH kd∧aH n∧nm.size<1073741824∧am r∧r.length<1073741824∧ks.length<1073741824∧sys.length<1073741824:=by grind [OkT]
theorem OkT.kid {kd n nm r ks sys x} (h:OkT (.mk kd n nm r ks sys)) (hx:x∈ks):OkT x:=by grind [OkT,okK_iff]
theorem OkT.br {kd n nm r ks sys b} (h:OkT (.mk kd n nm r ks sys)) (hb:b∈sys):(am b.face∧b.face.length<1073741824∧b.kids.length<1073741824)∧ ∀t∈b.kids,OkT t:=by grind [OkT,JM]
theorem UV {bd:Bool} {vars dims kd:Int}: ∀ {l:List Tm},cV bd vars dims kd l=l.all (bg bd vars (dims+aw kd)):=by
 intro l
 induction l<;>grind [cV]
theorem zq {bd:Bool} {vars dims kd:Int}: ∀ {l:List (Br Tm)},c7 bd vars dims kd l=l.all fun b=>b.kids.all (bg bd vars (dims+aw kd)):=by
 intro l
 induction l with
 |nil=>rfl
 |cons b l ih=>cases b;simp_all [c7,pg,UV]
end Go.Proofs.YtehekgbehghgdaaGreatDoor
namespace Go.Proofs.YtehekgbehghgdaaGreatDoor
open Go PI
set_option linter.unusedVariables false
set_option linter.unusedSimpArgs false
set_option maxRecDepth 100000
section
variable {H:Type} {enc:TypeId×Value→H} {w:World} {base:Nat} {spare:Nat→Bool} {held:Bool} {o:Obj} {N:az} {g:Gh UU}
noncomputable abbrev hU (enc:TypeId×Value→H) (w:World) (base:Nat) (spare:Nat→Bool) (held:Bool):=DataW.trod enc Tryz.prog w base spare held
def mq (o:Obj) (w:World) (N:az) (g:Gh UU) (e:ET) (x:EL e) (cs:List Value):Prop:= ∀ (k:Nat) (p:PU),(dz e x)[k]? =some p→ ∃v,cs[k]? =some v∧Rep (LL o) w N g v p
theorem zP {l:List (DataW H)}:l.length≤Rows.uptoBulkAll l:=by
 induction l with
 |nil=>simp [Rows.uptoBulkAll]
 |cons x r ih=>
  have:1≤Rows.uptoBulk x:=by
   cases x with
   |lit l=>cases l<;>simp [Rows.uptoBulk]
   |_=>simp [Rows.uptoBulk]
  simp only [Rows.uptoBulkAll,List.length_cons];omega
theorem build {α β:Type} {R:Nat→β→α→Prop}: ∀ (elems:List β) (s:Nat),(∀i d,elems[i]? =some d→ ∃x,R (s+i) d x)→ ∃l:List α,l.length=elems.length∧ ∀i d,elems[i]? =some d→ ∃x,l[i]? =some x∧R (s+i) d x:=by
 intro elems
 induction elems with
 |nil=>intro s h;exact ⟨[],rfl,fun i d h=>by simp at h⟩
 |cons d r ih=>
  intro s h
  obtain ⟨x,hx⟩:=h 0 d rfl
  obtain ⟨l,hl,hr⟩:=ih (s+1) fun i d' hd=>by
   obtain ⟨x,hx⟩:=h (i+1) d' (by simpa using hd)
   exact ⟨x,by rw [show s+1+i=s+(i+1) by omega];exact hx⟩
  refine ⟨x::l,by simp [hl],fun i d' hd=> ?_⟩
  cases i with
  |zero=>injection hd with hd;subst hd;exact ⟨x,rfl,hx⟩
  |succ i=>
   obtain ⟨y,hy,hr⟩:=hr i d' (by simpa using hd)
   exact ⟨y,by simpa using hy,by rw [show s+(i+1)=s+1+i by omega];exact hr⟩
theorem Ci (hN: ∀b o,¬N b o) {e:ET} {tS tE:TypeId} (ht:Tryz.prog.underlying tS=some (.slice tE)) (hc:Tryz.prog.cellsOf tE=nd e) {Q:EL e→DataW H→Prop} {n:Nat} {cs:List Value} {d:DataW H} {pl:List MemPlace}
  (hel: ∀ (cs:List Value) (d:DataW H) (pl:List MemPlace),hU enc w base spare held n tE cs=some (d,pl)→ ∃x:EL e,mq o w N g e x cs∧Q x d) (h:hU enc w base spare held (n+1) tS cs=some (d,pl)):
  ∃ (v:Value) (l:List (EL e)) (ds:List (DataW H)),cs=[v]∧Rep (LL o) w N g v (.sl (U:=UU) e l .none)∧l.length=ds.length∧(∀ (i:Nat) (x:EL e) (y:DataW H),l[i]? =some x→ds[i]? =some y→Q x y)∧Rows.uptoBulkAll ds+1≤Rows.uptoBulk d:=by
 rcases DataW.trod_slice ht h with ⟨rfl,hx⟩|⟨a,len,cap,elems,rest,m,hm,rfl,hx,hb,hl,hcp,hlen,hee,_,_⟩
 ·injection hx with hx _
  subst hx
  exact ⟨_,[],[],rfl,Rep.sl (X:=LL o) (N:=N) (g:=g) none 0 0 e (show List (EL e) from []) .none (fun _ _=>undef) rfl (Nat.le_refl _) trivial (fun j x hx=>by cases hx) (fun j x hx=>by cases hx),rfl,fun i x y h=>by simp at h,by simp [Rows.uptoBulkAll,Rows.uptoBulk]⟩
 ·obtain rfl:n=m:=by omega
  injection hx with hx _
  subst hx
  obtain ⟨l,hll,hlr⟩:=build (R:=fun i (y:DataW H×List MemPlace) (x:EL e)=> ∃cs',w.cells? base (a.add (i*Tryz.prog.cellsOf tE)) (Tryz.prog.cellsOf tE)=some cs'∧mq o w N g e x cs'∧Q x y.1) elems 0 fun i y hy=>by
   have hi:i<len:=by rw [←hlen];exact (List.getElem?_eq_some_iff.1 hy).1
   have:=hee i hi
   rw [hy] at this
   obtain ⟨cs',h1,h2⟩:=Option.bind_eq_some_iff.1 this
   obtain ⟨x,hx1,hx2⟩:=hel cs' y.1 y.2 h2
   exact ⟨x,cs',by simpa using h1,hx1,hx2⟩
  have hget: ∀ (j:Nat) (x:EL e),l[j]? =some x→ ∃ (y:DataW H×List MemPlace) (cs':List Value),elems[j]? =some y∧w.cells? base (a.add (j*Tryz.prog.cellsOf tE)) (Tryz.prog.cellsOf tE)=some cs'∧mq o w N g e x cs'∧Q x y.1:=fun j x hx=>by
   have hj:j<elems.length:=by rw [←hll];exact (List.getElem?_eq_some_iff.1 hx).1
   obtain ⟨x',hx',cs',h1,h2,h3⟩:=hlr j _ (List.getElem?_eq_getElem hj)
   rw [hx] at hx'
   injection hx' with hx'
   subst hx'
   exact ⟨_,cs',List.getElem?_eq_getElem hj,by simpa using h1,h2,h3⟩
  have hcell: ∀ (j:Nat) (x:EL e),l[j]? =some x→ ∀ (k:Nat) (p:PU),(dz e x)[k]? =some p→ ∃v,w.cell? (a.add (j*(LL o).esize e+k))=some v∧Rep (LL o) w N g v p:=fun j x hx k p hp=>by
   obtain ⟨y,cs',_,h1,h2,_⟩:=hget j x hx
   obtain ⟨v,hv,hr⟩:=h2 k p hp
   obtain ⟨_,hl',hcs⟩:=World.cells?_some h1
   have hk:k<Tryz.prog.cellsOf tE:=by rw [←hl'];exact (List.getElem?_eq_some_iff.1 hv).1
   have:=hcs k hk
   rw [hv,Go.Deep.add_add,hc] at this
   exact ⟨v,this,hr⟩
  refine ⟨_,l,elems.map (·.1),rfl,Rep.sl (X:=LL o) (some a) len cap e l .none (fun j k=>(w.cell? (a.add (j*(LL o).esize e+k))).getD undef) (by rw [←hlen];exact hll) hl trivial (fun j x hx k p hp=> ?_) (fun j x hx k p hp=> ?_),by simpa using hll,fun i x y hx hy=> ?_,by simp [Rows.uptoBulk]⟩
  ·obtain ⟨v,hv,_⟩:=hcell j x hx k p hp
   exact ⟨a,rfl,by simp [hv],hN _ _⟩
  ·obtain ⟨v,hv,hr⟩:=hcell j x hx k p hp
   simp only [hv];exact hr
  ·obtain ⟨y',cs',h1,_,_,h3⟩:=hget i x hx
   have:y=y'.1:=by
    rw [List.getElem?_map,h1] at hy
    injection hy with hy;exact hy.symm
   subst this
   exact h3
theorem JO {n:Nat} {cs:List Value} {d:DataW H} {pl:List MemPlace} (h:hU enc w base spare held n 3 cs=some (d,pl)): ∃z,cs=[.int .i64 z]∧aH z:=by
 obtain ⟨z,rfl,_,hw⟩:=DataW.trod_int Tryz.underlying3 h
 refine ⟨z,rfl, ?_⟩
 simp [Lit.wf,IntKind.has] at hw
 have h1:IntKind.i64.min= -9223372036854775808:=rfl
 have h2:IntKind.i64.max=9223372036854775807:=rfl
 unfold aH
 omega
theorem JP {n:Nat} {cs:List Value} {d:DataW H} {pl:List MemPlace} (h:hU enc w base spare held n 78 cs=some (d,pl)): ∃z,cs=[.int .u32 z]∧U32 z:=by
 obtain ⟨z,rfl,_,hw⟩:=DataW.trod_int Tryz.underlying78 h
 refine ⟨z,rfl, ?_⟩
 simp [Lit.wf,IntKind.has] at hw
 have h1:IntKind.u32.min=0:=rfl
 have h2:IntKind.u32.max=4294967295:=rfl
 unfold U32
 omega
def QC (c:Cl) (d:DataW H):Prop:=aM c
def QT (t:Tm) (d:DataW H):Prop:=aG t≤Rows.uptoBulk d∧(Rows.uptoBulk d<1073741824→OkT t)
def QB (b:Br Tm) (d:DataW H):Prop:=g9 b≤Rows.uptoBulk d∧(Rows.uptoBulk d<1073741824→(am b.face∧b.face.length<1073741824∧b.kids.length<1073741824)∧ ∀t∈b.kids,OkT t)
theorem acm {n:Nat} {cs:List Value} {d:DataW H} {pl:List MemPlace} (h:hU enc w base spare held n 80 cs=some (d,pl)): ∃x:EL ET.C,mq o w N g ET.C x cs∧QC (show Cl from x) d:=by
 obtain ⟨xs,m,rfl,_,hl,hlen,hf⟩:=DataW.trod_struct Tryz.underlying80 h
 have hl2:cs.length=2:=hl.trans (by kernel_rfl)
 match cs,hl2,xs,hlen with
 |[a,b],_,[y0,y1],_=>
 have h0:=hf 0 _ rfl
 have h1:=hf 1 _ rfl
 have c78:Tryz.prog.cellsOf 78=1:=by kernel_rfl
 simp [c78] at h0 h1
 obtain ⟨z0,e0,k0⟩:=JP h0
 obtain ⟨z1,e1,k1⟩:=JP h1
 obtain rfl:a= .int .u32 z0:=by simpa using e0
 obtain rfl:b= .int .u32 z1:=by simpa using e1
 refine ⟨(⟨z0,z1⟩:Cl),fun k p hp=> ?_,⟨k0,k1⟩⟩
 match k,hp with
 |0,hp=>cases hp;exact ⟨_,rfl,.int _ _⟩
 |1,hp=>cases hp;exact ⟨_,rfl,.int _ _⟩
 |k+2,hp=>simp [dz] at hp
theorem afb {l:List Tm} {ds:List (DataW H)} (hl:l.length=ds.length) (h: ∀ (i:Nat) (x:Tm) (y:DataW H),l[i]? =some x→ds[i]? =some y→QT x y):aJ l≤Rows.uptoBulkAll ds∧(Rows.uptoBulkAll ds<1073741824→ ∀t∈l,OkT t):=by
 induction l generalizing ds with
 |nil=>rw [aJ];exact ⟨Nat.zero_le _,fun _ t ht=>by cases ht⟩
 |cons t l ih=>
  cases ds with
  |nil=>cases hl
  |cons d ds=>
   obtain ⟨h1,h2⟩:=h 0 t d rfl rfl
   obtain ⟨i1,i2⟩:=ih (ds:=ds) (by simpa using hl) fun i x y hx hy=>h (i+1) x y (by simpa using hx) (by simpa using hy)
   rw [aJ,Rows.uptoBulkAll]
   refine ⟨by omega,fun hb u hu=> ?_⟩
   rcases List.mem_cons.1 hu with rfl|hu
   ·exact h2 (by omega)
   ·exact i2 (by omega) u hu
theorem afc {l:List (Br Tm)} {ds:List (DataW H)} (hl:l.length=ds.length) (h: ∀ (i:Nat) (x:Br Tm) (y:DataW H),l[i]? =some x→ds[i]? =some y→QB x y):aN l≤Rows.uptoBulkAll ds∧(Rows.uptoBulkAll ds<1073741824→bn l):=by
 induction l generalizing ds with
 |nil=>rw [aN,bn];exact ⟨Nat.zero_le _,fun _=>trivial⟩
 |cons t l ih=>
  cases ds with
  |nil=>cases hl
  |cons d ds=>
   obtain ⟨h1,h2⟩:=h 0 t d rfl rfl
   obtain ⟨i1,i2⟩:=ih (ds:=ds) (by simpa using hl) fun i x y hx hy=>h (i+1) x y (by simpa using hx) (by simpa using hy)
   rw [aN,Rows.uptoBulkAll,bn,lW]
   exact ⟨by omega,fun hb=>⟨h2 (by omega),i2 (by omega)⟩⟩
theorem JN (hN: ∀b o,¬N b o) {n:Nat} {cs:List Value} {d:DataW H} {pl:List MemPlace} (h:hU enc w base spare held n 22 cs=some (d,pl)):
  ∃ (v:Value) (l:List Cl),cs=[v]∧Rep (LL o) w N g v (bD l .none)∧am l∧l.length+1≤Rows.uptoBulk d:=by
 cases n with
 |zero=>cases h
 |succ n=>
  obtain ⟨v,l,ds,rfl,hr,hl,hq,hb⟩:=Ci (e:=ET.C) (Q:=fun x d=>QC (show Cl from x) d) hN Tryz.underlying22 (by kernel_rfl) (fun cs d pl h=>acm h) h
  refine ⟨v,l,rfl,hr,fun c hc=> ?_, ?_⟩
  ·obtain ⟨i,hi⟩:=List.getElem?_of_mem hc
   have hlt:i<ds.length:=by rw [←hl];exact (List.getElem?_eq_some_iff.1 hi).1
   exact hq i c _ hi (List.getElem?_eq_getElem hlt)
  ·have:=zP (l:=ds)
   have hl': @List.length Cl l=ds.length:=hl
   omega
theorem acl (hN: ∀b o,¬N b o): ∀ (n:Nat),
  (∀ (cs:List Value) (d:DataW H) (pl:List MemPlace),hU enc w base spare held n 26 cs=some (d,pl)→ ∃x:EL ET.T,mq o w N g ET.T x cs∧QT (show Tm from x) d)∧
  (∀ (cs:List Value) (d:DataW H) (pl:List MemPlace),hU enc w base spare held n 63 cs=some (d,pl)→ ∃x:EL ET.B,mq o w N g ET.B x cs∧QB (show Br Tm from x) d)∧
  (∀ (cs:List Value) (d:DataW H) (pl:List MemPlace),hU enc w base spare held n 23 cs=some (d,pl)→ ∃ (v:Value) (l:List Tm),cs=[v]∧Rep (LL o) w N g v (df l .none)∧aJ l+1≤Rows.uptoBulk d∧l.length+1≤Rows.uptoBulk d∧(Rows.uptoBulk d<1073741824→ ∀t∈l,OkT t))∧
  (∀ (cs:List Value) (d:DataW H) (pl:List MemPlace),hU enc w base spare held n 24 cs=some (d,pl)→ ∃ (v:Value) (l:List (Br Tm)),cs=[v]∧Rep (LL o) w N g v (de l .none)∧aN l+1≤Rows.uptoBulk d∧l.length+1≤Rows.uptoBulk d∧(Rows.uptoBulk d<1073741824→bn l)):=by
 intro n
 induction n with
 |zero=>exact ⟨fun cs d pl h=>(by cases h),fun cs d pl h=>(by cases h),fun cs d pl h=>(by cases h),fun cs d pl h=>(by cases h)⟩
 |succ n ih=>
 obtain ⟨iT,iB,iK,iS⟩:=ih
 have c3:Tryz.prog.cellsOf 3=1:=by kernel_rfl
 have c9:Tryz.prog.cellsOf 9=1:=by kernel_rfl
 have c22:Tryz.prog.cellsOf 22=1:=by kernel_rfl
 have c23:Tryz.prog.cellsOf 23=1:=by kernel_rfl
 have c24:Tryz.prog.cellsOf 24=1:=by kernel_rfl
 refine ⟨fun cs d pl h=> ?_,fun cs d pl h=> ?_,fun cs d pl h=> ?_,fun cs d pl h=> ?_⟩
 ·obtain ⟨xs,m,hm,hx,hl,hlen,hf⟩:=DataW.trod_struct Tryz.underlying26 h
  obtain rfl:n=m:=by omega
  injection hx with hx _
  subst hx
  have hl6:cs.length=6:=hl.trans (by kernel_rfl)
  match cs,hl6,xs,hlen with
  |[a0,a1,a2,a3,a4,a5],_,[y0,y1,y2,y3,y4,y5],_=>
  have h0:=hf 0 _ rfl
  have h1:=hf 1 _ rfl
  have h2:=hf 2 _ rfl
  have h3:=hf 3 _ rfl
  have h4:=hf 4 _ rfl
  have h5:=hf 5 _ rfl
  simp [c3,c9,c22,c23,c24] at h0 h1 h2 h3 h4 h5
  obtain ⟨z0,e0,k0⟩:=JO h0
  obtain ⟨z1,e1,k1⟩:=JO h1
  obtain ⟨s,e2,k2,_⟩:=DataW.trod_string Tryz.underlying9 h2
  obtain ⟨v3,l3,e3,r3,k3,m3⟩:=JN (o:=o) (g:=g) hN h3
  obtain ⟨v4,l4,e4,r4,k4,m4,q4⟩:=iK _ _ _ h4
  obtain ⟨v5,l5,e5,r5,k5,m5,q5⟩:=iS _ _ _ h5
  obtain rfl:a0= .int .i64 z0:=by simpa using e0
  obtain rfl:a1= .int .i64 z1:=by simpa using e1
  obtain rfl:a2= .string s:=by simpa using e2
  obtain rfl:a3=v3:=by simpa using e3
  obtain rfl:a4=v4:=by simpa using e4
  obtain rfl:a5=v5:=by simpa using e5
  have hs:s.size<Rows.uptoBulk y2.1:=by
   rw [k2]
   simp [Rows.uptoBulk]
  refine ⟨Tm.mk z0 z1 s l3 l4 l5,fun k p hp=> ?_, ?_,fun hb=> ?_⟩
  ·match k,hp with
   |0,hp=>cases hp;exact ⟨_,rfl,.int _ _⟩
   |1,hp=>cases hp;exact ⟨_,rfl,.int _ _⟩
   |2,hp=>cases hp;exact ⟨_,rfl,.str _⟩
   |3,hp=>cases hp;exact ⟨_,rfl,r3⟩
   |4,hp=>cases hp;exact ⟨_,rfl,r4⟩
   |5,hp=>cases hp;exact ⟨_,rfl,r5⟩
   |k+6,hp=>simp [dz] at hp
  ·show aG _≤_
   rw [aG]
   simp only [List.map_cons,List.map_nil,Rows.uptoBulk,Rows.uptoBulkAll]
   omega
  ·simp only [List.map_cons,List.map_nil,Rows.uptoBulk,Rows.uptoBulkAll] at hb
   show OkT _
   rw [OkT,okK_iff]
   exact ⟨⟨k0,k1,by omega,k3,by omega,by omega,by omega⟩,q4 (by omega),q5 (by omega)⟩
 ·obtain ⟨xs,m,hm,hx,hl,hlen,hf⟩:=DataW.trod_struct Tryz.underlying63 h
  obtain rfl:n=m:=by omega
  injection hx with hx _
  subst hx
  have hl2:cs.length=2:=hl.trans (by kernel_rfl)
  match cs,hl2,xs,hlen with
  |[a0,a1],_,[y0,y1],_=>
  have h0:=hf 0 _ rfl
  have h1:=hf 1 _ rfl
  simp [c22,c23] at h0 h1
  obtain ⟨v3,l3,e3,r3,k3,m3⟩:=JN (o:=o) (g:=g) hN h0
  obtain ⟨v4,l4,e4,r4,k4,m4,q4⟩:=iK _ _ _ h1
  obtain rfl:a0=v3:=by simpa using e3
  obtain rfl:a1=v4:=by simpa using e4
  refine ⟨Br.mk l3 l4,fun k p hp=> ?_, ?_,fun hb=> ?_⟩
  ·match k,hp with
   |0,hp=>cases hp;exact ⟨_,rfl,r3⟩
   |1,hp=>cases hp;exact ⟨_,rfl,r4⟩
   |k+2,hp=>simp [dz] at hp
  ·show g9 _≤_
   rw [g9]
   simp only [List.map_cons,List.map_nil,Rows.uptoBulk,Rows.uptoBulkAll]
   omega
  ·simp only [List.map_cons,List.map_nil,Rows.uptoBulk,Rows.uptoBulkAll] at hb
   exact ⟨⟨k3,by show l3.length<_;omega,by show l4.length<_;omega⟩,q4 (by omega)⟩
 ·obtain ⟨v,l,ds,rfl,hr,hl,hq,hb⟩:=Ci (e:=ET.T) (Q:=fun x d=>QT (show Tm from x) d) hN Tryz.underlying23 (by kernel_rfl) iT h
  obtain ⟨s1,s2⟩:=afb (l:=l) hl hq
  have:=zP (l:=ds)
  have hl': @List.length Tm l=ds.length:=hl
  exact ⟨v,l,rfl,hr,by omega,by omega,fun hd=>s2 (by omega)⟩
 ·obtain ⟨v,l,ds,rfl,hr,hl,hq,hb⟩:=Ci (e:=ET.B) (Q:=fun x d=>QB (show Br Tm from x) d) hN Tryz.underlying24 (by kernel_rfl) iB h
  obtain ⟨s1,s2⟩:=afc (l:=l) hl hq
  have:=zP (l:=ds)
  have hl': @List.length (Br Tm) l=ds.length:=hl
  exact ⟨v,l,rfl,hr,by omega,by omega,fun hd=>s2 (by omega)⟩
end
end Go.Proofs.YtehekgbehghgdaaGreatDoor
namespace Go.Proofs
open Go.Shelf
def Tryz.sortCl_ren:Go.Shelf.Ren:=⟨fun|6=>310|15=>357|14=>356|28=>385|29=>386|20=>377|21=>378|22=>379|23=>380|24=>381|25=>382|26=>383|27=>384|46=>398|47=>399|48=>400|49=>401|50=>402|57=>408|n=>n,fun|22=>22|24=>80|25=>237|3=>3|39=>245|0=>0|53=>78|55=>46|4=>4|46=>275|45=>274|50=>279|5=>5|9=>9|66=>283|70=>287|76=>293|77=>188|n=>n,fun|n=>n⟩
theorem Tryz.sortCl:Go.Proofs.SlLaysF0.n6 Tryz.prog Tryz.sortCl_ren:={
 mixed:=by kernel_rfl
 f6:=⟨Tryz.f310.name,by decide,Tryz.func310.trans (congrArg some (by kernel_rfl))⟩
 f14:=⟨Tryz.f356.name,by decide,Tryz.func356.trans (congrArg some (by kernel_rfl))⟩
 f15:=Tryz.func357.trans (congrArg some (by kernel_rfl))
 f20:=⟨Tryz.f377.name,by decide,Tryz.func377.trans (congrArg some (by kernel_rfl))⟩
 f21:=⟨Tryz.f378.name,by decide,Tryz.func378.trans (congrArg some (by kernel_rfl))⟩
 f22:=⟨Tryz.f379.name,by decide,Tryz.func379.trans (congrArg some (by kernel_rfl))⟩
 f23:=⟨Tryz.f380.name,by decide,Tryz.func380.trans (congrArg some (by kernel_rfl))⟩
 f24:=⟨Tryz.f381.name,by decide,Tryz.func381.trans (congrArg some (by kernel_rfl))⟩
 f25:=⟨Tryz.f382.name,by decide,Tryz.func382.trans (congrArg some (by kernel_rfl))⟩
 f26:=⟨Tryz.f383.name,by decide,Tryz.func383.trans (congrArg some (by kernel_rfl))⟩
 f27:=⟨Tryz.f384.name,by decide,Tryz.func384.trans (congrArg some (by kernel_rfl))⟩
 f28:=Tryz.func385.trans (congrArg some (by kernel_rfl))
 f29:=Tryz.func386.trans (congrArg some (by kernel_rfl))
 f46:=⟨Tryz.f398.name,by decide,Tryz.func398.trans (congrArg some (by kernel_rfl))⟩
 f47:=Tryz.func399.trans (congrArg some (by kernel_rfl))
 f48:=Tryz.func400.trans (congrArg some (by kernel_rfl))
 f49:=⟨Tryz.f401.name,by decide,Tryz.func401.trans (congrArg some (by kernel_rfl))⟩
 f50:=⟨Tryz.f402.name,by decide,Tryz.func402.trans (congrArg some (by kernel_rfl))⟩
 f57:=⟨Tryz.f408.name,by decide,Tryz.func408.trans (congrArg some (by kernel_rfl))⟩
 t0:=Tryz.underlying0
 a0:=Tryz.isAgg0
 z0:=Tryz.sizeOf0
 v0:=Tryz.zeroValue0
 t3:=Tryz.underlying3
 a3:=Tryz.isAgg3
 z3:=Tryz.sizeOf3
 v3:=Tryz.zeroValue3
 t4:=Tryz.underlying4
 a4:=Tryz.isAgg4
 z4:=Tryz.sizeOf4
 v4:=Tryz.zeroValue4
 t5:=Tryz.underlying5
 a5:=Tryz.isAgg5
 z5:=Tryz.sizeOf5
 v5:=Tryz.zeroValue5
 t9:=Tryz.underlying9
 a9:=Tryz.isAgg9
 z9:=Tryz.sizeOf9
 v9:=Tryz.zeroValue9
 t22:=Tryz.underlying22
 a22:=Tryz.isAgg22
 z22:=Tryz.sizeOf22
 v22:=Tryz.zeroValue22
 t25:=Tryz.underlying237
 a25:=Tryz.isAgg237
 z25:=Tryz.sizeOf237
 v25:=Tryz.zeroValue237
 t39:=Tryz.underlying245
 a39:=Tryz.isAgg245
 z39:=Tryz.sizeOf245
 v39:=Tryz.zeroValue245
 t45:=Tryz.underlying274
 a45:=Tryz.isAgg274
 z45:=Tryz.sizeOf274
 v45:=Tryz.zeroValue274
 t46:=Tryz.underlying275
 a46:=Tryz.isAgg275
 z46:=Tryz.sizeOf275
 v46:=Tryz.zeroValue275
 t50:=Tryz.underlying279
 a50:=Tryz.isAgg279
 z50:=Tryz.sizeOf279
 v50:=Tryz.zeroValue279
 t53:=Tryz.underlying78
 a53:=Tryz.isAgg78
 z53:=Tryz.sizeOf78
 v53:=Tryz.zeroValue78
 t55:=Tryz.underlying46
 a55:=Tryz.isAgg46
 z55:=Tryz.sizeOf46
 v55:=Tryz.zeroValue46
 t66:=Tryz.underlying283
 a66:=Tryz.isAgg283
 z66:=Tryz.sizeOf283
 v66:=Tryz.zeroValue283
 t70:=Tryz.underlying287
 a70:=Tryz.isAgg287
 z70:=Tryz.sizeOf287
 v70:=Tryz.zeroValue287
 t76:=Tryz.underlying293
 a76:=Tryz.isAgg293
 z76:=Tryz.sizeOf293
 v76:=Tryz.zeroValue293
 t77:=Tryz.underlying188
 a77:=Tryz.isAgg188
 z77:=Tryz.sizeOf188
 v77:=Tryz.zeroValue188}
end Go.Proofs
namespace Go.Proofs.YtehekgbehghgdaaGreatDoor
open Go PI
set_option linter.unusedVariables false
set_option maxRecDepth 100000
noncomputable section
def Yd:Nat:=396
def Ye:Nat:=122
noncomputable def C_ {S:Type}:List PU→List (Box UU)→(Out UU→Option S)→Option S
 |[.sl .C y0 .none],[],κ=>ow y0 fun r=>κ (.ret (bD r .none) [])
 |_,_,_=> .none
noncomputable def C9 {S:Type}:List PU→List (Box UU)→(Out UU→Option S)→Option S
 |[.int .u32 y0],[],κ=>sh y0 fun r=>κ (.ret (gj r .none) [])
 |_,_,_=> .none
end
end Go.Proofs.YtehekgbehghgdaaGreatDoor
namespace Go.Proofs
open Go.Shelf Go.RowKit
set_option maxHeartbeats 1000000 in
theorem Tryz.tz32_core (x k idx:Nat) (w:World) (hx0:((x:Int)==0)=false)
  (key:bits BinOp.and IntKind.u32 (x:Int) (-(x:Int)%4294967296)*125613361%4294967296/134217728=(idx:Int))
  (hi:idx<32) (hk:k<32) (hcell:w.cell? ⟨0,idx,none⟩=some (.int .u8 k)):
  Calls Tryz.prog 411 #[.int .u32 x] w fun e w'=>e= .returned (.int .i64 k)∧w'=w:=by
 go_enter Tryz.func411,Tryz.ntmps411
 go_wp2_with (simp only [key])
 go_ret
 exact ⟨rfl,rfl⟩
theorem Tryz.tz32 (x:Nat) (hx:x<4294967296) (h0:x≠0) (w:World) (hT:TabAt 0 Lib.deBruijn32tab w):
  Calls Tryz.prog 411 #[.int .u32 x] w fun e w'=>e= .returned (.int .i64 (Lib.ctz 32 x))∧w'=w:=by
 obtain ⟨hlow,hk⟩:=Lib.lowest_bit 32 x h0 hx
 obtain ⟨hi,htab⟩:=Lib.deBruijn32_at _ hk
 have hcell:=hT _ hi
 rw [htab] at hcell
 exact Tryz.tz32_core x _ _ w (by simp;omega) (tz32_key x _ hx h0 hlow) hi hk hcell
end Go.Proofs
namespace Go.Proofs.YtehekgbehghgdaaGreatDoor
open Go Go.Shelf Go.RowKit
attribute [local go_sem] Oper.semAt_some
def d2 (s:Nat):List Nat:=(List.range 24).filter s.testBit
theorem afZ (s:Nat) (h0:s≠0) (h:s<16777216):d2 s=Lib.ctz 32 s::d2 (s&&&(s-1))∧s&&&(s-1)<s:=by
 obtain ⟨m,hm,hk⟩:=Lib.ctzFrom_spec 32 s (by omega) (by omega)
 have e:Lib.ctz 32 s=Lib.ctzFrom 32 s:=by simp [Lib.ctz,h0]
 rw [e]
 generalize Lib.ctzFrom 32 s=t at hm hk
 have hs:s=2^(t+1)*m+2^t:=by
  rw [hm,Nat.mul_add,Nat.mul_one,Nat.pow_succ,←Nat.mul_assoc]
 have hp:0<2^t:=Nat.two_pow_pos t
 have hp2:2^(t+1)=2^t*2:=Nat.pow_succ 2 t
 have hs1:s-1=2^(t+1)*m+(2^t-1):=by omega
 have b1: ∀j,s.testBit j=if j<t+1 then decide (t=j) else m.testBit (j-(t+1)):=fun j=>by
  rw [hs,Nat.testBit_two_pow_mul_add _ (by omega),Nat.testBit_two_pow]
 have b2: ∀j,(s-1).testBit j=if j<t+1 then decide (j<t) else m.testBit (j-(t+1)):=fun j=>by
  rw [hs1,Nat.testBit_two_pow_mul_add _ (by omega),Nat.testBit_two_pow_sub_one]
 have b3: ∀j,(s&&&(s-1)).testBit j=if j<t+1 then false else m.testBit (j-(t+1)):=fun j=>by
  rw [Nat.testBit_and,b1,b2]
  by_cases hj:j<t+1
  ·rw [if_pos hj,if_pos hj,if_pos hj]
   by_cases ht:t=j
   ·rw [decide_eq_true ht,decide_eq_false (by omega)];rfl
   ·rw [decide_eq_false ht];rfl
  ·rw [if_neg hj,if_neg hj,if_neg hj,Bool.and_self]
 have b4:s&&&(s-1)=2^(t+1)*m:=by
  apply Nat.eq_of_testBit_eq
  intro j
  rw [b3]
  have:2^(t+1)*m=2^(t+1)*m+0:=rfl
  rw [this,Nat.testBit_two_pow_mul_add _ (by omega),Nat.zero_testBit]
 have ht:t<24:=by
  apply Nat.lt_of_not_le
  intro hle
  have:2^24≤2^t:=Nat.pow_le_pow_right (by decide) hle
  have h24:(2:Nat)^24=16777216:=by decide
  omega
 refine ⟨?_,by omega⟩
 unfold d2
 have hr:List.range 24=List.range t++(t::(List.range (23-t)).map (fun j=>t+1+j)):=by
  apply List.ext_getElem
  ·simp;omega
  ·intro i h1 h2
   simp only [List.getElem_range]
   by_cases hi:i<t
   ·rw [List.getElem_append_left (by simpa using hi)];simp
   ·rw [List.getElem_append_right (by simpa using hi)]
    simp only [List.length_range]
    by_cases he:i=t
    ·subst he;simp
    ·obtain ⟨d,rfl⟩: ∃d,i=t+1+d:=⟨i-t-1,by omega⟩
     simp only [show t+1+d-t=d+1 by omega,List.getElem_cons_succ,List.getElem_map,List.getElem_range]
 rw [hr,List.filter_append,List.filter_append]
 have f1:(List.range t).filter s.testBit=[]:=List.filter_eq_nil_iff.2 fun j hj=>by
  have:=List.mem_range.1 hj
  rw [b1,if_pos (by omega),decide_eq_false (by omega)];decide
 have f2:(List.range t).filter (s&&&(s-1)).testBit=[]:=List.filter_eq_nil_iff.2 fun j hj=>by
  have:=List.mem_range.1 hj
  rw [b3,if_pos (by omega)];decide
 rw [f1,f2,List.nil_append,List.nil_append,List.filter_cons_of_pos (by rw [b1,if_pos (by omega)];simp),List.filter_cons_of_neg (by rw [b3,if_pos (by omega)];decide)]
 congr 1
 apply List.filter_congr
 intro j hj
 obtain ⟨d,_,rfl⟩:=List.mem_map.1 hj
 rw [b1,b3,if_neg (by omega),if_neg (by omega)]
theorem afX:d2 0=[]:=List.filter_eq_nil_iff.2 fun j _=>by rw [Nat.zero_testBit];decide
theorem afY (s:Nat):(d2 s).length≤24:=by
 have:=List.length_filter_le s.testBit (List.range 24)
 simpa [d2] using this
theorem YG (s:Int) (w:World):Calls Tryz.prog 406 #[.int .u32 s] w fun e w'=>e= .returned (.func (.func 410) #[] #[.pointer (some ⟨w.heap.size,0,none⟩)])∧w'=w.alloc (.cells #[.int .u32 s] 78):=by
 go_enter Tryz.func406,Tryz.ntmps406
 go_wp2
 go_ret
 exact ⟨rfl,rfl⟩
def BO:Code:=(Code.region 3 #[{dst:=some 4,op:=Op.assign (Operand.tmp 7),type:=3,pos:= "mask.go:57",after:= #[],guard:=none}] false)
def BP:Code:=(Code.block 1 (Code.region 4 #[{dst:=some 8,op:=Op.load 110 (Operand.tmp 3),type:=110,pos:= "mask.go:58",after:= #[],guard:=none},{dst:=some 9,op:=Op.move (Operand.tmp 4),type:=3,pos:= "mask.go:58",after:= #[],guard:=none},{dst:=some 10,op:=Op.buildSlice 110 1 #[(0,Operand.tmp 9)],type:=110,pos:= "mask.go:58",after:= #[{on:=1,ground:=Ground.data}],guard:=none},{dst:=some 11,op:=Op.call {callee:=Callee.builtin Builtin.append,args:= #[Operand.tmp 8,Operand.tmp 10],argTypes:= #[110,110]},type:=110,pos:= "mask.go:58",after:= #[{on:=0,ground:=Ground.data},{on:=2,ground:=Ground.data}],guard:=none},{dst:=none,op:=Op.store 110 (Operand.tmp 3) (Operand.tmp 11),type:=0,pos:= "mask.go:58",after:= #[{on:=3,ground:=Ground.data},{on:=3,ground:=Ground.chain},{on:=0,ground:=Ground.phase},{on:=1,ground:=Ground.phase},{on:=2,ground:=Ground.phase},{on:=3,ground:=Ground.phase}],guard:=none}] false))
def ga (fn:FuncId) (s0:Int) (fv:Value) (Bo D:Nat) (st:LoopState) (pend:Option Code):Loop:=
 {state:=st,pending:=pend,fn,tmps:= #[.int .u32 s0,undef,.slice none 0 0,.pointer (some ⟨Bo,0,none⟩),undef,.int .u32 s0,fv,undef,undef,undef,undef,undef,undef],params:= #[7],assign:=BO,body:=BP,defers:=D}
def er (x:Nat):Value:= .int .i64 (x:Int)
structure LsAt (w0:World) (fn:FuncId) (s0:Int) (fv:Value) (Bo l D:Nat) (ss:List Nat) (W:World):Prop where
 box: ∃v,W.heap[Bo]? =some (.cells #[v] 110 (0,0))∧W.ownsRow w0.heap.size 3 1 v ss.length (ss.map er)
 L:W.heap[l]? =some (.loop (ga fn s0 fv Bo D .ready none))
 K:W.heap[D]? =some (.deferred (some []))
 below:Below w0.heap.size w0 W
theorem ox (W:World) (l:Nat) (o:Obj):W.grownBy (W.putObj l o) (some l):=
 ⟨rfl,rfl,rfl,by simp,fun k _ hk=>World.putObj_heap_other (fun e=>hk (by rw [e]))⟩
theorem Dr (W:World) (b:Nat) (v:Value):W.grownBy (W.setCell ⟨b,0,none⟩ v) (some b):=
 ⟨rfl,rfl,rfl,(KeepsWalks.setCell W _ v).size,fun k _ hk=>Below.heap_setCell _ _ _ k (fun e=>hk (by rw [e]))⟩
theorem km {W:World} {base:Nat} {e:TypeId} {size:Nat} {v:Value} {k:Nat} {xs:List Value} (h:W.ownsRow base e size v k xs) {j:Nat} {o:Obj} (hj:W.heap[j]? =some o) (hno: ∀cur,o≠ .cells cur e (0,0)):
  v.ownBlock=none∨v.ownBlock≠some j:=by
 rcases h.2 with ⟨rfl,_⟩|⟨g,cap,cur,rfl,_,hgb,_⟩
 ·exact .inl rfl
 ·refine .inr fun e'=> ?_
  have:g=j:=by simpa [Value.ownBlock] using e'
  subst this;rw [hgb] at hj;cases hj;exact hno cur rfl
theorem kU {W:World} {B:Nat} {v:Value} {t:TypeId} (h:W.heap[B]? =some (.cells #[v] t (0,0))):W.cell? ⟨B,0,none⟩=some v∧W.frozen? ⟨B,0,none⟩=false:=by
 constructor<;>simp [World.cell?,World.frozen?,h]
theorem zN {W:World} {B:Nat} {v:Value} {t:TypeId} (v':Value) (h:W.heap[B]? =some (.cells #[v] t (0,0))):(W.setCell ⟨B,0,none⟩ v').heap[B]? =some (.cells #[v'] t (0,0)):=by
 obtain ⟨hlt,hk⟩:=Array.getElem?_eq_some_iff.1 h
 show (W.heap.modify B _)[B]? =_
 rw [Array.getElem?_eq_getElem (by rw [Array.size_modify];exact hlt),Array.getElem_modify_self,hk]
 rfl
theorem YI:(Tryz.prog.info? 3).map (fun i=>(i.zero,i.size,i.bytes))=some (some (.int .i64 0),1,8):=by kernel_rfl
set_option maxRecDepth 100000 in
set_option maxHeartbeats 2000000 in
theorem abz (F:Fence) (m:Nat) (w0:World) (fn:FuncId) (hfn:F.fn fn) (s0:Int) (fv:Value) (Bo Bi l D:Nat) (hBl:Bo≠l) (hDl:D≠l) (hDB:D≠Bo) (hBiBo:Bi≠Bo) (hBil:Bi≠l) (h0B:w0.heap.size≤Bo) (h0l:w0.heap.size≤l)
  (ss:List Nat) (x:Nat) (c:Value) (W:World) (h:LsAt w0 fn s0 fv Bo l D ss W) (hi0:W.heap[Bi]? =some (.cells #[c] 78 (0,0))) (hlen:ss.length<24):
  YieldAt F m Tryz.prog l #[er x] W fun e W'=>e= .returned (.bool true)∧LsAt w0 fn s0 fv Bo l D (ss++[x]) W'∧W'.heap[Bi]? =some (.cells #[c] 78 (0,0)):=by
 obtain ⟨i0,hi,hz0,hz1,hz2⟩:=info_parts YI
 obtain ⟨v,hv,hrow⟩:=h.box
 refine ⟨fn,#[.int .u32 s0,undef,.slice none 0 0,.pointer (some ⟨Bo,0,none⟩),undef,.int .u32 s0,fv,.int .i64 (x:Int),undef,undef,undef,undef,undef],BO,BP,by simpa [ga,er] using run_yield (P:=Tryz.prog) (args:= #[er x]) h.L rfl,roundIn_of_wpIn hfn ?_⟩
 have hl:l<W.heap.size:=(Array.getElem?_eq_some_iff.1 h.L).1
 have hbr:=run_beginRound (P:=Tryz.prog) h.L rfl
 obtain ⟨W2,hW2⟩: ∃W2,W.putObj l (.loop {ga fn s0 fv Bo D .ready none with state:= .busy})=W2:=⟨_,rfl⟩
 rw [hW2] at hbr
 have hg2:W.grownBy W2 (some l):=by rw [←hW2];exact ox _ _ _
 have hv2:W2.heap[Bo]? =some (.cells #[v] 110 (0,0)):=by rw [←hW2];exact (World.putObj_heap_other hBl).trans hv
 have hi2:W2.heap[Bi]? =some (.cells #[c] 78 (0,0)):=by rw [←hW2];exact (World.putObj_heap_other hBil).trans hi0
 have hK2:W2.heap[D]? =some (.deferred (some [])):=by rw [←hW2];exact (World.putObj_heap_other hDl).trans h.K
 have hL2:W2.heap[l]? =some (.loop {ga fn s0 fv Bo D .ready none with state:= .busy}):=by rw [←hW2];exact World.putObj_heap_same hl
 have hrow2:W2.ownsRow w0.heap.size 3 1 v ss.length (ss.map er):=hrow.kept hg2 (km hrow h.L (fun cur e=>by cases e))
 have hb2:Below w0.heap.size w0 W2:=h.below.grown hg2 h.below.size (fun k e=>by cases e;exact h0l)
 obtain ⟨hc2,hf2⟩:=kU hv2
 have hBlt:Bo<W2.heap.size:=(Array.getElem?_eq_some_iff.1 hv2).1
 have hBilt:Bi<W2.heap.size:=(Array.getElem?_eq_some_iff.1 hi2).1
 have hl2:l<W2.heap.size:=(Array.getElem?_eq_some_iff.1 hL2).1
 have hDlt:D<W2.heap.size:=(Array.getElem?_eq_some_iff.1 hK2).1
 have ne_of: ∀ {j:Nat} {o:Obj},W2.heap[j]? =some o→(∀cur,o≠ .cells cur 3 (0,0))→some j≠v.ownBlock:=fun hj hno=>by
  rcases km hrow2 hj hno with e|e
  ·rw [e];simp
  ·exact fun e'=>e e'.symm
 clear hW2
 have hml:24≤maxLen:=by unfold maxLen;omega
 unfold BO
 gi_wp2_with (rw [Oper.semAt_eq _ _ _ (fun c h=>by cases h)];go_simp;try go_bits)
 unfold BP
 gi_wp2_with (first
  |(gi_at_builtin;refine wpListIn_append_own _ rfl _ _ 110 rfl w0.heap.size 3 i0 (.int .i64 0) 1 8 Tryz.underlying110 hi hz0 hz1 hz2 rfl (by decide) _ _ _ rfl (hrow2.alloc _) ⟨W2.heap.size,0,none⟩ 1 1 [er x] rfl rfl (cell_one_new _ _ _) (by simp [Value.oneCell',er]) (by omega) (by omega) (by have:=hb2.size;simp;omega) ?_;intro v' w3 hown' hg3 hnil3
    have hv3:w3.heap[Bo]? =some (.cells #[v] 110 (0,0)):=(hg3.block Bo (by simp;omega) (ne_of hv2 (fun cur e=>by cases e))).trans ((Below.heap_alloc _ _ Bo hBlt).trans hv2)
    obtain ⟨hc3,hf3⟩:=kU hv3
    obtain ⟨g',cap',cur',rfl,hbase',hgb',hr1,hr2,hr3,hr4⟩: ∃g' cap' cur',v'= .slice (some ⟨g',0,none⟩) (ss.length+1) cap'∧w0.heap.size≤g'∧w3.heap[g']? =some (.cells cur' 3 (0,0))∧ss.length+1≤cap'∧cap'≤maxLen∧cur'.size=cap'*1∧cur'.toList.take ((ss.length+1)*1)=ss.map er++[er x]:=by
     rcases hown'.2 with ⟨_,h0⟩|h'
     ·exact absurd h0 (by omega)
     ·exact h'
    go_frame)
  |(rw [Oper.semAt_eq _ _ _ (fun c h=>by cases h)];go_simp;try go_bits))
 have hg3':(W2.alloc (.cells #[er x] 3)).grownBy w3 v.ownBlock:=hg3
 have hL3:w3.heap[l]? =some (.loop {ga fn s0 fv Bo D .ready none with state:= .busy}):=(hg3'.block l (by simp;omega) (ne_of hL2 (fun cur e=>by cases e))).trans ((Below.heap_alloc _ _ l hl2).trans hL2)
 have hK3:w3.heap[D]? =some (.deferred (some [])):=(hg3'.block D (by simp;omega) (ne_of hK2 (fun cur e=>by cases e))).trans ((Below.heap_alloc _ _ D hDlt).trans hK2)
 have hi3:w3.heap[Bi]? =some (.cells #[c] 78 (0,0)):=(hg3'.block Bi (by simp;omega) (ne_of hi2 (fun cur e=>by cases e))).trans ((Below.heap_alloc _ _ Bi hBilt).trans hi2)
 obtain ⟨w4,hw4⟩: ∃w4,w3.setCell ⟨Bo,0,none⟩ (.slice (some ⟨g',0,none⟩) (ss.length+1) cap')=w4:=⟨_,rfl⟩
 rw [hw4]
 have hg4:w3.grownBy w4 (some Bo):=by rw [←hw4];exact Dr _ _ _
 have hv4:w4.heap[Bo]? =some (.cells #[.slice (some ⟨g',0,none⟩) (ss.length+1) cap'] 110 (0,0)):=by rw [←hw4];exact zN _ hv3
 have hL4:w4.heap[l]? =some (.loop {ga fn s0 fv Bo D .ready none with state:= .busy}):=(hg4.block l (Array.getElem?_eq_some_iff.1 hL3).1 (fun e=>hBl (by cases e;rfl))).trans hL3
 have hK4:w4.heap[D]? =some (.deferred (some [])):=(hg4.block D (Array.getElem?_eq_some_iff.1 hK3).1 (fun e=>hDB (by cases e;rfl))).trans hK3
 have hi4:w4.heap[Bi]? =some (.cells #[c] 78 (0,0)):=(hg4.block Bi (Array.getElem?_eq_some_iff.1 hi3).1 (fun e=>hBiBo (by cases e;rfl))).trans hi3
 have hrow4:=hown'.kept hg4 (km hown' hv3 (fun cur e=>by cases e))
 have hl4:l<w4.heap.size:=(Array.getElem?_eq_some_iff.1 hL4).1
 have hb3:Below w0.heap.size w0 w3:=(hb2.alloc hb2.size _).grown hg3' (by have:=hb2.size;simp;omega) (fun k e=>(hrow2.lt k e).1)
 have hb4:Below w0.heap.size w0 w4:=hb3.grown hg4 hb3.size (fun k e=>by cases e;exact h0B)
 clear hw4
 refine ⟨_,_,run_endRound none hL4,rfl,⟨⟨_,(World.putObj_heap_other hBl).trans hv4, ?_⟩,World.putObj_heap_same hl4,(World.putObj_heap_other hDl).trans hK4,hb4.grown (ox _ _ _) hb4.size (fun k e=>by cases e;exact h0l)⟩,(World.putObj_heap_other hBil).trans hi4⟩
 have:=hrow4.kept (ox w4 l (.loop {{ga fn s0 fv Bo D .ready none with state:= .busy} with state:=if (none:Option Code).isNone then .ready else .done,pending:=none})) (km hrow4 hL4 (fun cur e=>by cases e))
 simpa using this
def BG (Bi:Nat) (w:World):Nat:=match w.cell? ⟨Bi,0,none⟩ with
 |some v=>(intOf v).toNat
 |none=>0
theorem HR {Bi:Nat} {w:World} {n:Nat} {t:TypeId} (h:w.heap[Bi]? =some (.cells #[.int .u32 (n:Int)] t (0,0))):BG Bi w=n:=by
 unfold BG;rw [(kU h).1];simp [intOf]
theorem UR {w0 W:World} (hT:TabAt 0 Lib.deBruijn32tab w0) (hb:Below w0.heap.size w0 W):TabAt 0 Lib.deBruijn32tab W:=fun j hj=>by
 have h:=hT j hj
 have h0:0<w0.heap.size:=World.block_lt_of_cell? w0 ⟨0,j,none⟩ h
 exact (hb.cell (p:=⟨0,j,none⟩) h0).trans h
theorem U4 (s:Int):bits .and .u32 s 16777215=(((BitVec.ofInt 32 s).toNat&&&16777215:Nat):Int):=by
 have hx:(BitVec.ofInt 32 s).toNat&&&16777215<2^32:=Nat.and_lt_two_pow _ (by omega)
 show IntKind.u32.wrap ((BitVec.ofInt 32 s&&&BitVec.ofInt 32 16777215).toNat:Int)=_
 rw [BitVec.toNat_and,wrap_u32',show (BitVec.ofInt 32 16777215).toNat=16777215 from by decide]
 omega
def f_ (s:Int):Nat:=(BitVec.ofInt 32 s).toNat&&&16777215
theorem U5 (s:Nat) (h0:s≠0) (h:s<4294967296):bits .and .u32 (s:Int) ((s:Int)-1)=((s&&&(s-1):Nat):Int):=by
 have:(s:Int)-1=((s-1:Nat):Int):=by omega
 rw [this];exact bits_and_u32_nat s (s-1) h (by omega)
set_option maxRecDepth 100000 in
set_option maxHeartbeats 2000000 in
theorem aby (F:Fence) (n:Nat) (h410:F.fn 410) (h411:F.fn 411) (hro:F.round=none) (hn:1≤n) (w0:World) (fn:FuncId) (hfn:F.fn fn) (s0:Int) (fv:Value) (Bo Bi l D:Nat) (hBl:Bo≠l) (hDl:D≠l) (hDB:D≠Bo) (hBiBo:Bi≠Bo) (hBil:Bi≠l) (hBiD:Bi≠D)
  (h0B:w0.heap.size≤Bo) (h0l:w0.heap.size≤l) (h0i:w0.heap.size≤Bi) (hT:TabAt 0 Lib.deBruijn32tab w0) (s:Int) (W:World) (h:LsAt w0 fn s0 fv Bo l D [] W) (hi0:W.heap[Bi]? =some (.cells #[.int .u32 s] 78 (0,0)))
  (htz: ∀ (x:Nat),x<4294967296→x≠0→ ∀W',TabAt 0 Lib.deBruijn32tab W'→CallsIn F (n-1) Tryz.prog 411 #[.int .u32 x] W' fun e w'=>e= .returned (.int .i64 (Lib.ctz 32 x))∧w'=W'):
  CallsIn F n Tryz.prog 410 #[.func (.yield l) #[] #[],.pointer (some ⟨Bi,0,none⟩)] W fun e W'=>(∃v,e= .returned v)∧LsAt w0 fn s0 fv Bo l D (d2 (f_ s)) W':=by
 obtain ⟨hc0,hf0⟩:=kU hi0
 have ha:bits .and .u32 s 16777215=((f_ s:Nat):Int):=U4 s
 have hsl:f_ s<16777216:=Nat.lt_of_le_of_lt Nat.and_le_right (by decide)
 generalize f_ s=q at ha hsl ⊢
 refine callsIn_of_wp Tryz.func410 rfl h410 ?_ hro
 simp only [Tryz.ntmps410,List.size_toArray,List.length_cons,List.length_nil,Nat.reduceAdd,Nat.reduceSub,Array.replicate_succ,Array.replicate_zero,List.push_toArray,List.append_toArray,List.nil_append,List.cons_append]
 gi_wp2
 have hi1:=zN (.int .u32 (q:Int)) hi0
 have hA1:LsAt w0 fn s0 fv Bo l D [] (W.setCell ⟨Bi,0,none⟩ (.int .u32 (q:Int))):=by
  obtain ⟨v,hv,hrow⟩:=h.box
  exact ⟨⟨v,(Below.heap_setCell _ _ _ Bo (fun e=>hBiBo e.symm)).trans hv,hrow.kept (Dr _ _ _) (km hrow hi0 (fun cur e=>by cases e))⟩,(Below.heap_setCell _ _ _ l (fun e=>hBil e.symm)).trans h.L,(Below.heap_setCell _ _ _ D (fun e=>hBiD e.symm)).trans h.K,h.below.setCell h0i _⟩
 gi_loopw [] (fun wr=> ∃ (pre:List Nat) (c:Nat),c<16777216∧pre++d2 c=d2 q∧LsAt w0 fn s0 fv Bo l D pre wr∧wr.heap[Bi]? =some (.cells #[.int .u32 (c:Int)] 78 (0,0)))
  (fun wr=>BG Bi wr)
 case atStart=>exact ⟨[],q,hsl,rfl,hA1,hi1⟩
 case round=>
  obtain ⟨pre,c,hc,hp,hA,hb⟩:=hrel
  clear hc0 hf0 ha hi1 hA1
  obtain ⟨hc1,hf1⟩:=kU hb
  by_cases hz:c=0
  ·subst hz
   rw [afX,List.append_nil] at hp
   gi_wp2
   go_end0
   exact ⟨⟨_,rfl⟩,hp▸hA⟩
  ·have hne:((c:Int)==0)=false:=by simp;omega
   have hne': ¬ ((c:Int)=0):=by omega
   have hstep:=afZ c hz hc
   have hpl:pre.length<24:=by
    have h1:=afY q
    have h2:=congrArg List.length hp
    rw [hstep.1,List.length_append,List.length_cons] at h2
    omega
   obtain ⟨fn',tmps,assign,body,hy,hR⟩:=abz F (n-1) w0 fn hfn s0 fv Bo Bi l D hBl hDl hDB hBiBo hBil h0B h0l pre (Lib.ctz 32 c) (.int .u32 (c:Int)) wr hA hb hpl
   have hT1:=UR hT hA.below
   have hap:=U5 c hz (by omega)
   unfold er at hy
   have hyH:Hid (Lib.ctz 32 c=Lib.ctz 32 c):=rfl
   gi_wp2_with (gi_at_call 411;refine (htz c (by omega) hz _ hT1).mono ?_;rintro e w' ⟨rfl,rfl⟩)
   refine hR.mono ?_
   rintro e W3 ⟨rfl,hA3,hb3⟩
   obtain ⟨hc3,hf3⟩:=kU hb3
   clear hc1 hf1 hA hy hR hT1
   gi_wp2
   have hb4:=zN (.int .u32 ((c&&&(c-1):Nat):Int)) hb3
   have hlt:=hstep.2
   go_roundw
   case rel=>
    refine ⟨pre++[Lib.ctz 32 c],c&&&(c-1),by omega, ?_, ?_,hb4⟩
    ·rw [←hp,hstep.1,List.append_assoc];rfl
    ·obtain ⟨v,hv,hrow⟩:=hA3.box
     exact ⟨⟨v,(Below.heap_setCell _ _ _ Bo (fun e=>hBiBo e.symm)).trans hv,hrow.kept (Dr _ _ _) (km hrow hb3 (fun cur e=>by cases e))⟩,(Below.heap_setCell _ _ _ l (fun e=>hBil e.symm)).trans hA3.L,(Below.heap_setCell _ _ _ D (fun e=>hBiD e.symm)).trans hA3.K,hA3.below.setCell h0i _⟩
   case measure=>rw [HR hb4,HR hb];exact hlt
set_option maxRecDepth 100000 in
set_option maxHeartbeats 2000000 in
theorem abw (F:Fence) (n:Nat) (h396:F.fn 396) (h406:F.fn 406) (h410:F.fn 410) (h411:F.fn 411) (hro:F.round=none) (hn:3≤n) (s:Int) (w:World) (hT:TabAt 0 Lib.deBruijn32tab w)
  (hin: ∀W,CallsIn F (n-1) Tryz.prog 406 #[.int .u32 s] W fun e w'=>e= .returned (.func (.func 410) #[] #[.pointer (some ⟨W.heap.size,0,none⟩)])∧w'=W.alloc (.cells #[.int .u32 s] 78))
  (htz: ∀ (x:Nat),x<4294967296→x≠0→ ∀W',TabAt 0 Lib.deBruijn32tab W'→CallsIn F (n-1-1) Tryz.prog 411 #[.int .u32 x] W' fun e w'=>e= .returned (.int .i64 (Lib.ctz 32 x))∧w'=W'):
  CallsIn F n Tryz.prog 396 #[.int .u32 s] w fun e w'=> ∃v:Value,e= .returned v∧w'.ownsRow w.heap.size 3 1 v (d2 (f_ s)).length ((d2 (f_ s)).map er)∧Below w.heap.size w w':=by
 have h1:1≤n:=by omega
 have eg: ∀args w,(callFunc 410 args).run Tryz.prog w= .ok (.enter 410 args) w:=enters_of Tryz.func410 (by kernel_rfl) rfl
 refine callsIn_of_wp_marks Tryz.func396 rfl h396 ?_ hro
 simp only [Tryz.ntmps396,List.size_toArray,List.length_cons,List.length_nil,Nat.reduceAdd,Nat.reduceSub,Array.replicate_succ,Array.replicate_zero,List.push_toArray,List.append_toArray,List.nil_append,List.cons_append]
 gi_wp2_with (gi_at_call 406;refine (hin _).mono ?_;rintro e w' ⟨rfl,rfl⟩)
 refine wpIn_rangeFunc ?_
 intro fn hfn
 rw [hro]
 obtain ⟨fv,hfv⟩: ∃fv:Value,fv= .func (.func 410) #[] #[.pointer (some ⟨w.heap.size+1,0,none⟩)]:=⟨_,rfl⟩
 obtain ⟨W0,hW0⟩: ∃W0,(w.alloc (.cells #[.slice none 0 0] 110)).alloc (.cells #[.int .u32 s] 78)=W0:=⟨_,rfl⟩
 have hs0:W0.heap.size=w.heap.size+2:=by rw [←hW0];simp
 have hv0:W0.heap[w.heap.size]? =some (.cells #[.slice none 0 0] 110 (0,0)):=by rw [←hW0];exact (Below.heap_alloc _ _ _ (by simp)).trans (World.alloc_heap_new w _)
 have hi0:W0.heap[w.heap.size+1]? =some (.cells #[.int .u32 s] 78 (0,0)):=by
  rw [←hW0];have:=World.alloc_heap_new (w.alloc (.cells #[.slice none 0 0] 110)) (.cells #[.int .u32 s] 78);rwa [World.size_alloc] at this
 have hb0:Below w.heap.size w W0:=by rw [←hW0];exact ((Below.refl _ w).alloc (Nat.le_refl _) _).alloc (by simp) _
 rw [hW0]
 obtain ⟨W1,hW1⟩: ∃W1,(W0.alloc (.deferred (some []))).alloc (.loop (ga fn s fv w.heap.size W0.heap.size .ready none))=W1:=⟨_,rfl⟩
 have hold: ∀k,k<W0.heap.size→W1.heap[k]? =W0.heap[k]? :=fun k hk=>by
  rw [←hW1];exact (Below.heap_alloc _ _ k (by simp;omega)).trans (Below.heap_alloc _ _ k hk)
 have hb1:Below w.heap.size w W1:=by rw [←hW1];exact (hb0.alloc hb0.size _).alloc (by have:=hb0.size;simp;omega) _
 have hM:LsAt w fn s fv w.heap.size (W0.heap.size+1) W0.heap.size [] W1:=
  ⟨⟨_,(hold w.heap.size (by omega)).trans hv0,⟨rfl,.inl ⟨rfl,rfl⟩⟩⟩,
   by rw [←hW1];have:=World.alloc_heap_new (W0.alloc (.deferred (some []))) (.loop (ga fn s fv w.heap.size W0.heap.size .ready none));rwa [World.size_alloc] at this,
   by rw [←hW1];exact (Below.heap_alloc _ _ _ (by simp)).trans (World.alloc_heap_new W0 _),hb1⟩
 refine ⟨W0.heap.size+1,[{target:= .collected W0.heap.size,args:= #[]}],W1,{target:= .fn (.func 410) #[.pointer (some ⟨w.heap.size+1,0,none⟩)],args:= #[.func (.yield (W0.heap.size+1)) #[] #[]]},W1,410,
  #[.func (.yield (W0.heap.size + 1)) #[] #[]] ++ #[.pointer (some ⟨w.heap.size + 1, 0, none⟩)], W1, ?_, ?_, ?_, ?_, fun _ => h1, ?_⟩
 ·rw [←hW1,hfv];exact run_enterLoop_outer _ _ _ _ _
 ·simp [resolve,go_sem]
 ·intro f' hf';simp [Target.leads] at hf';subst hf';exact h410
 ·simp [invoke,go_sem,eg]
 ·refine (aby F (n-1) h410 h411 hro (by omega) w fn hfn s fv w.heap.size (w.heap.size+1) (W0.heap.size+1) W0.heap.size (by omega) (by omega) (by omega) (by omega) (by omega) (by omega) (Nat.le_refl _) (by omega) (by omega) hT s W1 hM ((hold _ (by omega)).trans hi0) htz).mono ?_
  rintro e W2 ⟨⟨v0,rfl⟩,h2⟩
  obtain ⟨v,hv,hrow⟩:=h2.box
  have hend:=run_endLoop (P:=Tryz.prog) h2.L (by simp [ga])
  obtain ⟨W3,hW3⟩: ∃W3,W2.putObj (W0.heap.size+1) (.loop {ga fn s fv w.heap.size W0.heap.size .ready none with state:= .exhausted})=W3:=⟨_,rfl⟩
  rw [hW3] at hend
  have hg3:W2.grownBy W3 (some (W0.heap.size+1)):=by rw [←hW3];exact ox _ _ _
  have hv3:W3.heap[w.heap.size]? =some (.cells #[v] 110 (0,0)):=by rw [←hW3];exact (World.putObj_heap_other (by omega)).trans hv
  have hK3:W3.heap[W0.heap.size]? =some (.deferred (some [])):=by rw [←hW3];exact (World.putObj_heap_other (by omega)).trans h2.K
  have hrow3:=hrow.kept hg3 (km hrow h2.L (fun cur e=>by cases e))
  have hb3:Below w.heap.size w W3:=h2.below.grown hg3 h2.below.size (fun k e=>by cases e;omega)
  obtain ⟨hc3,hf3⟩:=kU hv3
  clear hW3
  refine ⟨none,W3,hend, ?_⟩
  clear hfv
  gi_wp2
  rw [show (w.heap.size+1+1)=W0.heap.size by omega]
  refine ⟨by simp,.inl ⟨_,_,rfl,run_takeDeferred hK3, ?_⟩⟩
  exact ⟨_,results_tmp rfl _ _ _,v,rfl,hrow3.kept (ox _ _ _) (km hrow3 hK3 (fun cur e=>by cases e)),hb3.grown (ox _ _ _) hb3.size (fun k e=>by cases e;omega)⟩
end Go.Proofs.YtehekgbehghgdaaGreatDoor
namespace Go.Proofs.YtehekgbehghgdaaGreatDoor
open Go PI Go.Shelf Go.RowKit
set_option linter.unusedVariables false
set_option linter.unusedSimpArgs false
set_option maxRecDepth 100000
def af (o:Obj):Prop:= ∃ (cur:Array Value) (e:TypeId) (fr:Nat×Nat),o= .cells cur e fr∧ ∀j,j<Lib.deBruijn32tab.length→cur[j]? =some (.int .u8 (Lib.deBruijn32tab.getD j 0))
theorem afG {o:Obj} (ho:af o) {w:World} (h:w.heap[0]? =some o):TabAt 0 Lib.deBruijn32tab w:=fun j hj=>by
 obtain ⟨cur,e,fr,rfl,hc⟩:=ho
 have:=hc j hj
 simp [World.cell?,h,this]
theorem abv (s:Int) (w:World) (hT:TabAt 0 Lib.deBruijn32tab w):Calls Tryz.prog 396 #[.int .u32 s] w fun e w'=> ∃v:Value,e= .returned v∧w'.ownsRow w.heap.size 3 1 v (d2 (f_ s)).length ((d2 (f_ s)).map er)∧Below w.heap.size w w':=
 callsIn_wide.1 (abw Fence.wide 5 trivial trivial trivial trivial rfl (by omega) s w hT (fun W=>callsIn_wide.2 (YG s W)) fun x hx h0 W' hT'=>callsIn_wide.2 (Tryz.tz32 x hx h0 W' hT'))
theorem abC (s:Int):ol s=(d2 (f_ s)).map fun n:Nat=>(n:Int):=by
 unfold ol d2 f_
 have:(List.range 24).filter ((BitVec.ofInt 32 s).toNat&&&16777215).testBit=(List.range 24).filter fun i=>(BitVec.ofInt 32 s).getLsbD i:=List.filter_congr fun i hi=>by
  have hi:i<24:=List.mem_range.1 hi
  have h24:(16777215:Nat)=2^24-1:=by decide
  rw [Nat.testBit_and,h24,Nat.testBit_two_pow_sub_one,decide_eq_true hi,Bool.and_true];rfl
 rw [this];rfl
theorem U9 {X:Link VV Tryz.prog} {w w':World} {vs:Array Value} {N0:az} {ν:Nat→Nat} {δ:Nat→Option Nat} {args:List PU} (hg:Given X w vs N0 ν δ args []) (hb:Below w.heap.size w w'):
  Back X w w' N0 ν δ 0 args.length ν (fun _=>none) [] where
 ext:=⟨hb.os,hb.tape,hb.output,hb.size,fun b hlt _=>hb.block b hlt⟩
 le:=Nat.le_refl _
 old:=fun i h=>absurd h (Nat.not_lt_zero i)
 new:=fun i _ h=>absurd h (Nat.not_lt_zero i)
 dnew:=fun j b h=>by cases h
 bnd:={
  inj:=fun i j h=>absurd h (Nat.not_lt_zero i)
  lt:=fun i h=>absurd h (Nat.not_lt_zero i)
  dlt:=fun j b h=>by cases h
  dinj:=fun i j b h=>by cases h
  dν:=fun j b h=>by cases h
  n0:=fun b o h=>⟨Nat.lt_of_lt_of_le (hg.bnd.n0 b o h).1 hb.size,fun i h=>absurd h (Nat.not_lt_zero i),fun j h=>by cases h⟩}
 boxes:=fun k b h=>by simp at h
theorem afQ {S:Type} (o:Obj) (ho:af o) (vs:List PU) (bs:List (Box UU)) (κ:Out UU→Option S) (x:S) (h:C9 vs bs κ=some x): ∃out,bL (LL o) Yd vs bs out∧κ out=some x:=by
 unfold C9 at h
 split at h
 case h_2=>cases h
 rename_i κ y
 refine ⟨_, ?_,h⟩
 refine ⟨⟨Tryz.f396,Tryz.func396,by kernel_rfl,rfl⟩,fun w vs N0 ν δ hg=> ?_⟩
 have hs:vs.size=1:=hg.size
 have h0:=hg.args 0 _ rfl
 obtain ⟨v0,hv0⟩: ∃v0,vs= #[v0]:=by
  obtain ⟨l⟩:=vs
  match l,hs with
  |[v],_=>exact ⟨v,rfl⟩
 subst hv0
 have h0:Rep (LL o) w _ _ v0 (.int .u32 y):=h0
 cases h0
 have hT:=afG ho (hg.glob 0 o (by simp [LL])).1
 refine (abv y w hT).mono ?_
 rintro e w' ⟨v,rfl,hrow,hb⟩
 refine ⟨ν,fun _=>none,U9 hg hb, ?_⟩
 show Rep (LL o) w' _ _ v (.sl ET.I (ol y) .none)
 rw [abC]
 generalize d2 (f_ y)=ts at hrow
 obtain ⟨hl,hr⟩:=hrow
 rcases hr with ⟨rfl,hn⟩|⟨g,cap,cur,rfl,hg0,hgb,hc,hc',hsz,htk⟩
 ·have:ts=[]:=List.length_eq_zero_iff.1 hn
  subst this
  exact .sl none 0 0 _ _ _ (fun _ _=>undef) rfl (Nat.le_refl _) trivial (fun j x hx=>by cases hx) (fun j x hx=>by cases hx)
 ·have hcell: ∀j x,(ts.map fun n:Nat=>(n:Int))[j]? =some x→cur.getD j undef= .int .i64 x∧w'.cell? ⟨g,j,none⟩=some (.int .i64 x):=by
   intro j x hx
   rw [List.getElem?_map] at hx
   cases ht:ts[j]? with
   |none=>rw [ht] at hx;cases hx
   |some n=>
    rw [ht] at hx
    injection hx with hx
    have hj:j<ts.length:=(List.getElem?_eq_some_iff.1 ht).1
    have h1:(cur.toList.take (ts.length*1))[j]? =some (er n):=by rw [htk,List.getElem?_map,ht];rfl
    rw [List.getElem?_take_of_lt (by omega)] at h1
    have h2:cur[j]? =some (.int .i64 x):=by rw [←Array.getElem?_toList,h1,←hx];rfl
    refine ⟨?_,by simp [World.cell?,hgb,h2]⟩
    rw [Array.getD_eq_getD_getElem?,h2];rfl
  refine Rep.sl (X:=LL o) (some ⟨g,0,none⟩) ts.length cap ET.I (show List Int from ts.map fun n:Nat=>(n:Int)) .none (fun j k=>cur.getD (j+k) undef) (List.length_map _) hc trivial (fun j x hx k p hp=> ?_) (fun j x hx k p hp=> ?_)
  ·match k,hp with
   |0,hp=>
    obtain ⟨h1,h2⟩:=hcell j x hx
    refine ⟨_,rfl, ?_, ?_⟩
    ·have:(⟨g,0,none⟩:Addr).add (j*(LL o).esize ET.I+0)=⟨g,j,none⟩:=by
      rw [Addr.add_lit'];show (⟨g,0+(j*1+0),none⟩:Addr)=_;congr 1;omega
     rw [this,h2];rw [Nat.add_zero,h1]
    ·rintro (hN|⟨i,hi,_⟩|⟨i,hi⟩)
     ·have:=(hg.bnd.n0 _ _ hN).1
      simp at this;omega
     ·exact absurd hi (Nat.not_lt_zero i)
     ·cases hi
   |k+1,hp=>simp [VV,dz] at hp
  ·match k,hp with
   |0,hp=>
    obtain ⟨h1,h2⟩:=hcell j x hx
    rw [Nat.add_zero,h1]
    have:p= .int .i64 x:=by simpa [VV,dz] using hp.symm
    subst this
    exact .int _ _
   |k+1,hp=>simp [VV,dz] at hp
end Go.Proofs.YtehekgbehghgdaaGreatDoor
namespace Go.Proofs.YtehekgbehghgdaaGreatDoor
open Go PI Go.Shelf Go.RowKit Go.Sort
set_option linter.unusedVariables false
set_option linter.unusedSimpArgs false
set_option maxRecDepth 100000
def kV (a b:Int):Int:=if a<b then-1 else if b<a then 1 else 0
def gx (x y:Cl):Int:=if x.pos=y.pos then kV x.neg y.neg else kV x.pos y.pos
def dS (x:Cl):List Value:=[.int .u32 x.pos,.int .u32 x.neg]
theorem A_ (a:Int) (W:World):Calls Tryz.prog 387 #[.int .u32 a] W fun e w'=>e= .returned (.bool false)∧w'=W:=by
 go_enter Tryz.func387,Tryz.ntmps387
 go_wp2
 go_ret
 exact ⟨by simp,rfl⟩
set_option maxHeartbeats 1000000 in
theorem FJ (a b:Int) (W:World):Calls Tryz.prog 358 #[.int .u32 a,.int .u32 b] W fun e w'=>e= .returned (.int .i64 (kV a b))∧w'=W:=by
 unfold kV
 by_cases h1:a<b
 ·rw [if_pos h1]
  go_enter Tryz.func358,Tryz.ntmps358
  go_wp2_with (go_at_call 387;refine (A_ _ _).mono ?_;rintro e w' ⟨rfl,rfl⟩)
  go_ret
  exact ⟨rfl,rfl⟩
 ·rw [if_neg h1]
  by_cases h2:b<a
  ·rw [if_pos h2]
   go_enter Tryz.func358,Tryz.ntmps358
   go_wp2_with (go_at_call 387;refine (A_ _ _).mono ?_;rintro e w' ⟨rfl,rfl⟩)
   go_ret
   exact ⟨rfl,rfl⟩
  ·rw [if_neg h2]
   go_enter Tryz.func358,Tryz.ntmps358
   go_wp2_with (go_at_call 387;refine (A_ _ _).mono ?_;rintro e w' ⟨rfl,rfl⟩)
   go_ret
   exact ⟨rfl,rfl⟩
set_option maxHeartbeats 1000000 in
theorem Vz (x y:Cl) (W:World):Calls Tryz.prog 311 #[.agg (dS x).toArray,.agg (dS y).toArray] W fun e w'=>e= .returned (.int .i64 (gx x y))∧ ∃q os',w'=grow (W.drewN q) os':=by
 obtain ⟨a,b⟩:=x
 obtain ⟨a',b'⟩:=y
 have h1:=FJ a a'
 have h2:=FJ b b'
 unfold gx
 simp only [dS]
 generalize kV a a'=r1 at h1 ⊢
 generalize kV b b'=r2 at h2 ⊢
 by_cases h:a=a'
 ·rw [if_pos h]
  go_enter Tryz.func311,Tryz.ntmps311
  go_wp2_with (go_at_call 358;refine (h2 _).mono ?_;rintro e w' ⟨rfl,rfl⟩)
  go_ret
  exact ⟨rfl,0,_,by rw [alloc_eq_grow,alloc_eq_grow,grow_grow];rfl⟩
 ·rw [if_neg h]
  go_enter Tryz.func311,Tryz.ntmps311
  go_wp2_with (go_at_call 358;refine (h1 _).mono ?_;rintro e w' ⟨rfl,rfl⟩)
  go_ret
  exact ⟨rfl,0,_,by rw [alloc_eq_grow,alloc_eq_grow,grow_grow];rfl⟩
theorem ry (x y:Cl):ltOf gx x y=(decide (x.pos<y.pos)||(decide (x.pos=y.pos)&&decide (x.neg<y.neg))):=by
 have h:gx x y<0↔(x.pos<y.pos∨x.pos=y.pos∧x.neg<y.neg):=by
  unfold gx kV
  split<;>split<;>first|omega|(split<;>omega)
 rw [Bool.eq_iff_iff]
 simp only [ltOf,decide_eq_true_eq,Bool.or_eq_true,Bool.and_eq_true]
 exact h
theorem afd:SWO (ltOf gx) where
 irrefl x:=by rw [ry];simp
 trans x y z h1 h2:=by rw [ry] at*;simp at*;omega
 ntrans x y z h1 h2:=by rw [ry] at*;simp at*;omega
theorem afT (x y:Cl) (h1:ltOf gx x y=false) (h2:ltOf gx y x=false):x=y:=by
 rw [ry] at*;simp at*
 obtain ⟨a,b⟩:=x
 obtain ⟨a',b'⟩:=y
 simp at*
 omega
theorem Yz:(fun x y:Cl=> !ltOf gx y x)=jv:=by
 funext x y
 rw [ry,Bool.eq_iff_iff]
 simp [jv]
 omega
instance:Inhabited Cl:=⟨⟨0,0⟩⟩
theorem aeW (b c:Nat) (d:List Cl) (w:World) (hH:HoldsK dS 2 w b 0 d.toArray) (hb:b<w.heap.size) (hsz:d.length<4611686018427387904):
  Calls Tryz.prog 310 #[.slice (some ⟨b,0,none⟩) d.length c,.func (.func 311) #[] #[]] w fun e w'=>e= .returned (.tuple #[])∧ ∃n os,w'=sortWorldK dS 2 w b 0 n (sortCl d).toArray os:=by
 have eg: ∀args w,(callFunc 311 args).run Tryz.prog w= .ok (.enter 311 args) w:=enters_of Tryz.func311 (by kernel_rfl) rfl
 have h:=AnyQ.slices_SortFunc_total Tryz.sortCl 2 Tryz.isAgg80 Tryz.sizeOf80 dS (fun _=>rfl) (fun x v hv=>by simp [dS] at hv;rcases hv with rfl|rfl<;>rfl) gx afd 311 #[] b 0 c d.toArray w eg (fun _ _ _ _ x y=>Vz x y _) hH hb hsz afT
 rw [Yz] at h
 exact h
theorem aeX (p:Option Addr) (c:Nat) (w:World):Calls Tryz.prog 310 #[.slice p 0 c,.func (.func 311) #[] #[]] w fun e w'=>e= .returned (.tuple #[])∧w'=w:=
 AnyF.slices_SortFunc_none Tryz.sortCl p c _ w
theorem aeV {m:Nat} {d:Array Cl} {os:Array Obj} {w:World} {b k:Nat} (hk:k<w.heap.size) (hne:k≠b):(sortWorldK dS 2 w b 0 m d os).heap[k]? =w.heap[k]? :=by
 unfold sortWorldK putRowK putRow mapBlock
 rw [heap_grow_old _ _ (by simpa [ahead] using hk)]
 show (w.heap.modify b _)[k]? =_
 rw [Array.getElem?_modify,if_neg (Ne.symm hne)]
theorem aeU {m:Nat} {d:Array Cl} {os:Array Obj} {w:World} {b:Nat} {cur:Array Value} {e:TypeId} {fr:Nat×Nat} (h:w.heap[b]? =some (.cells cur e fr)):
  (sortWorldK dS 2 w b 0 m d os).heap[b]? =some (.cells (putCells id 0 (flatK dS 2 d) cur) e fr):=by
 have hb:b<w.heap.size:=(Array.getElem?_eq_some_iff.1 h).1
 unfold sortWorldK putRowK putRow mapBlock
 rw [heap_grow_old _ _ (by simpa [ahead] using hb)]
 show (w.heap.modify b _)[b]? =_
 rw [Array.getElem?_modify,if_pos rfl,h];rfl
theorem Vx (x:Cl) {k:Nat} {p:PU} (hp:(dz .C x)[k]? =some p):k<2∧ ∀ (X:Link VV Tryz.prog) (w:World) (N:az) (g:Gh UU),Rep X w N g (dS x)[k]! p:=by
 match k,hp with
 |0,hp=>cases hp;exact ⟨by omega,fun X w N g=> .int _ _⟩
 |1,hp=>cases hp;exact ⟨by omega,fun X w N g=> .int _ _⟩
 |k+2,hp=>simp [dz] at hp
theorem YD {w:World} {b c:Nat} {l:List Cl} {cur:Array Value} {e:TypeId} (hb:w.heap[b]? =some (.cells cur e (0,0))) (hs:cur.size=c*2) (hl:l.length≤c) (h: ∀ (j:Nat) (x:Cl),l[j]? =some x→ ∀k,k<2→w.cell? ⟨b,j*2+k,none⟩=some (dS x)[k]!):HoldsK dS 2 w b 0 l.toArray:=by
 intro t ht
 rw [size_flatK] at ht
 have ht':t<l.length*2:=by simpa using ht
 have hj:t/2<l.length:=by omega
 have hx:l[t/2]? =some l.toArray[t/2]! :=by simp [hj]
 refine ⟨?_, ?_⟩
 ·rw [get_flatK _ _ _ _ ht]
  have:=h _ _ hx (t%2) (Nat.mod_lt _ (by omega))
  rw [Nat.zero_add]
  rw [show t/2*2+t%2=t by omega] at this
  exact this
 ·simp [World.frozen?,hb]
theorem YJ {f:Nat} {ps:List PU} {l l':List Cl} (h:A7 f ps l=some l'):f=310∧ps=[.func 311 [] []]∧l'=sortCl l:=by
 unfold A7 at h
 split at h
 ·injection h with h
  exact ⟨rfl,rfl,h.symm⟩
 ·cases h
theorem wm (o:Obj):jp (LL o):=by
 intro f ps e l l' h
 have hi:Hi f ps e l=some l':=h
 clear h
 cases e with
 |T=>cases hi
 |B=>cases hi
 |I=>cases hi
 |F=>cases hi
 |C=>
 obtain ⟨rfl,rfl,rfl⟩:=YJ hi
 refine ⟨⟨Tryz.f310,Tryz.func310,by kernel_rfl,rfl⟩,fun w vs N0 δ hg hδ=> ?_⟩
 have hs:vs.size=2:=hg.size
 obtain ⟨v0,v1,rfl⟩: ∃v0 v1,vs= #[v0,v1]:=by
  obtain ⟨l⟩:=vs
  match l,hs with
  |[v,v'],_=>exact ⟨v,v',rfl⟩
 have h0:ObOK (LL o) w (NB N0 0 (fun _=>0) δ) (gB UU 0 fun _=>0) ET.C l v0 .wr (δ 0):=hg.args 0 _ rfl
 have h1:Rep (LL o) w (NB N0 0 (fun _=>0) δ) (gB UU 0 fun _=>0) v1 (.func 311 [] []):=hg.args 1 _ rfl
 cases h1 with
 |func _ _ _ xs ys ha hb _ _=>
 have ha':xs= #[]:=by simpa using ha
 have hb':ys= #[]:=by simpa using hb
 subst ha';subst hb'
 obtain ⟨A,n,c,rfl,hl,hc,hcell,hm⟩:=h0.val
 have hl: @List.length Cl l=n:=hl
 cases hD:δ 0 with
 |none=>
  rw [hD] at hm hcell
  obtain ⟨rfl,rfl,rfl⟩:=hm.1 rfl
  have:l=([]:List Cl):=List.length_eq_zero_iff.1 hl
  subst this
  refine (aeX none 0 w).mono ?_
  rintro e w' ⟨rfl,rfl⟩
  refine ⟨rfl,.refl _ _, ?_⟩
  rw [hD] at h0
  have:sortCl []=[]:=by simp [sortCl]
  rw [this]
  exact h0
 |some b=>
  rw [hD] at hm hcell
  obtain ⟨hu,cur,rfl,hblk,hsz,hmax⟩:=hm
  have hbl:b<w.heap.size:=(Array.getElem?_eq_some_iff.1 hblk).1
  have hcs:cur.size=c*2:=hsz
  have hH:HoldsK dS 2 w b 0 l.toArray:=YD hblk hcs (hl▸hc) fun j x hx k hk=>by
   have hp: ∃p,(dz ET.C x)[k]? =some p∧p= .int .u32 (if k=0 then x.pos else x.neg):=by
    match k,hk with
    |0,_=>exact ⟨_,rfl,rfl⟩
    |1,_=>exact ⟨_,rfl,rfl⟩
   obtain ⟨p,hp,hpe⟩:=hp
   obtain ⟨a,v,ha,hv,hr,_⟩:=hcell j x hx k p hp
   injection ha with ha
   subst ha
   subst hpe
   have hv':w.cell? ⟨b,j*2+k,none⟩=some v:=by
    have:(⟨b,0,none⟩:Addr).add (j*(LL o).esize ET.C+k)=⟨b,j*2+k,none⟩:=by
     rw [Addr.add_lit'];show (⟨b,0+(j*2+k),none⟩:Addr)=_;congr 1;omega
    rw [this] at hv;exact hv
   rw [hv']
   cases hr
   match k,hk with
   |0,_=>rfl
   |1,_=>rfl
  have hlt: @List.length Cl l<4611686018427387904:=by
   have:n≤1099511627776:=hmax.2
   omega
  have hcall:=aeW b c l w hH hbl hlt
  have he:(.slice (some ⟨b,0,none⟩) (@List.length Cl l) c:Value)= .slice (some ⟨b,0,none⟩) n c:=by rw [hl]
  rw [he] at hcall
  refine hcall.mono ?_
  rintro e w' ⟨rfl,m,os,rfl⟩
  have hlen:(sortCl l).length= @List.length Cl l:=List.length_mergeSort _
  have hH':=holdsK_sortWorldK_c dS 2 w b 0 l.toArray (sortCl l).toArray m os hH hbl hlen
  refine ⟨rfl,⟨rfl,rfl,rfl,size_sortWorldK_c dS 2 w b 0 m _ os,fun k hk hne=>aeV hk fun e=>hne ?_⟩, ?_⟩
  ·subst e
   exact List.mem_append_right _ (List.mem_filterMap.2 ⟨0,by simp,hD⟩)
  ·refine ⟨_,n,c,rfl,hlen.trans hl,hc,fun j x hx k p hp=> ?_, ?_⟩
   ·obtain ⟨hk,hrep⟩:=Vx x hp
    have hj:j<(sortCl l).length:=(List.getElem?_eq_some_iff.1 hx).1
    have:=(hH'.cell (i:=j) (c:=k) (by simpa using hj) hk).1
    have he:(sortCl l).toArray[j]! =x:=by
     have:=List.getElem?_eq_some_iff.1 hx
     rw [getElem!_pos _ j (by simpa using hj)];exact this.2
    rw [he] at this
    refine ⟨_,_,rfl, ?_,hrep _ _ _ _,fun h=>by cases h⟩
    have e:(⟨b,0,none⟩:Addr).add (j*(LL o).esize ET.C+k)=⟨b,0+j*2+k,none⟩:=by
     rw [Addr.add_lit'];show (⟨b,0+(j*2+k),none⟩:Addr)=_;congr 1;omega
    show World.cell? _ (Addr.add _ _)=_
    rw [e];exact this
   ·exact ⟨hu,_,rfl,aeU hblk,by simp [putCells];exact hcs,hmax⟩
end Go.Proofs.YtehekgbehghgdaaGreatDoor
namespace Go.Proofs.YtehekgbehghgdaaGreatDoor
open Go PI Go.ChangeShapes Go.WideShapes Go.ChangeAt Go.RowKit
set_option linter.unusedVariables false
set_option linter.unusedSimpArgs false
set_option maxRecDepth 100000
theorem own:ownKnob Tryz.prog.godebug=none:=by kernel_rfl
theorem GW:Tryz.prog.globalNamed "math/bits.deBruijn32tab" =some 0:=by kernel_rfl
section
variable {H:Type} {enc:TypeId×Value→H}
structure Kept (W W':World):Prop where
 os:W'.os=W.os
 output:W'.output=W.output
 size:W.heap.size≤W'.heap.size
 block: ∀b,b<W.heap.size→W'.heap[b]? =W.heap[b]?
theorem Kept.sameAt {W W':World} (h:Kept W W') {p:MemPlace} (hp:p.block<W.heap.size):W.sameAt W' p:=by
 cases p with
 |cell b o=>simp only [World.sameAt,World.cell?];rw [h.block b hp]
 |map b=>exact h.block b hp
theorem Kept.kept {W W':World} (h:Kept W W') (may:MemPlace→Prop):W.keptBut W' may:=by
 refine ⟨h.os,h.output,fun i hi=> ?_⟩
 rw [h.block i hi]
 cases W.heap[i]? with
 |none=>rfl
 |some o=>cases o with
  |cells c t fr=>exact ⟨rfl,rfl,rfl,fun _ _=>rfl⟩
  |map es clock=>exact .inr ⟨rfl,rfl⟩
  |_=>rfl
theorem Fe {W W':World} {sp:Nat→Bool} {held:Bool}: ∀ {ts:List TypeId} {vs:List Value} {ds:List (DataW H)} {ps:List MemPlace},
  DataW.TrodAll enc Tryz.prog W 0 sp held ts vs ds ps→(∀p∈ps,W.sameAt W' p)→DataW.TrodAll enc Tryz.prog W' 0 sp held ts vs ds ps
 |[],[],[],_,h,_=>h
 |_::_,_::_,_::_,_,⟨p,q,⟨n,h1⟩,h2,e⟩,hs=>
  ⟨p,q,⟨n,DataW.trod_carry n _ _ _ h1 fun x hx=>hs x (by rw [e];exact List.mem_append_left _ hx)⟩,Fe h2 (fun x hx=>hs x (by rw [e];exact List.mem_append_right _ hx)),e⟩
theorem kids:Kids Tryz.prog (· <Tryz.prog.types.size):=kids_rows (by kernel_rfl) (by kernel_rfl)
theorem full: ∀t e,t<Tryz.prog.types.size→Tryz.prog.underlying t=some (.slice e)→0<Tryz.prog.cellsOf e:=slices_full_of Tryz.prog (by kernel_rfl)
theorem acs {f:Func} {s:ChangeSpec} (hv:s.vars=[]) {c8 fresh handsOn again:Bool} {W W':World} {args:Array Value} {ds gs:List (DataW H)} {before:List MemPlace} (hf:f.resultTypes= #[4])
  (hT: ∀t∈f.params.toList,t<Tryz.prog.types.size) (hs:s.fn H ds={results:=[.lit (.bool true)],args:=ds})
  (hW:DataW.Whole enc Tryz.prog f.params.toList s.vars c8 W args.toList ds gs before) (hk:Kept W W'):s.post enc Tryz.prog f c8 fresh handsOn again W args (.bool true) W':=by
 have hold: ∀p∈before,(fun b=>decide (b<W.heap.size)) p.block=true:=fun p hp=>by simpa using hW.lt p hp
 have hlt: ∀p∈before,p.block<W.heap.size:=fun p hp=>by simpa using hW.lt p hp
 have hW0:=hW
 obtain ⟨p,q,hA,hV,rfl,hz,hn⟩:=hW
 rw [hv] at hV
 obtain ⟨rfl,rfl⟩:=trodVars_none hV
 rw [List.append_nil] at hold hlt hz hn hW0
 have hs':s.fn H (ds++[])={results:=[.lit (.bool true)],args:=ds}:=by rw [List.append_nil];exact hs
 have hr:(Value.bool true).resultList f.resultTypes.size=[.bool true]:=by rw [hf];rfl
 have hres: ∀ (b:Nat) (sp:Nat→Bool) (hd:Bool),DataW.TrodAll enc Tryz.prog W' b sp hd f.resultTypes.toList ((Value.bool true).resultList f.resultTypes.size) (s.fn H (ds++[])).results []:=fun b sp hd=>by
  rw [hr,hs',hf]
  exact trodAll_cons_mk (shut_bool Tryz.underlying4 _) trodAll_mk0
 have hargs: ∀sp:Nat→Bool,(∀p'∈p,sp p'.block=true)→DataW.TrodAll enc Tryz.prog W' 0 sp true f.params.toList args.toList (s.fn H (ds++[])).args p:=fun sp hsp=>by
  rw [hs']
  exact DataW.TrodAll.respare kids full hT (Fe hA fun x hx=>hk.sameAt (hlt x hx)) hsp
 have hvars: ∀sp:Nat→Bool,DataW.TrodVars enc Tryz.prog W' sp s.vars (s.fn H (ds++[])).vars []:=fun sp=>by rw [hv,hs'];rfl
 refine ⟨ds,[],p,[],p,[],hW0,hres _ _ _,hargs _ hold,hvars _,World.keptBut_mono (fun p' hp=>hp.elim) (hk.kept fun _=>False),fun _=> ?_⟩
 refine ⟨fun j t r h1 h2=> ?_,_,_,([]++p)++[],⟨[]++p,[],trodAll_append (hargs _ (fun _ _=>rfl)) (hres _ _ _),hvars _,rfl, ?_, ?_⟩, ?_⟩
 ·rw [hf] at h1
  rw [hr] at h2
  match j,h1,h2 with
  |0,h1,h2=>cases h1;cases h2;exact okWide_bool_mk Tryz.underlying4 _
  |j+1,h1,h2=>simp at h2
 ·intro b off hp
  have hp':MemPlace.cell b off∈p:=by simpa using hp
  have:=hz b off hp'
  simp only [World.frozen?] at this ⊢
  rw [hk.block b (hlt _ hp')]
  exact this
 ·intro ha
  have:=hn ha
  simpa using this
 ·intro p' hp _
  simpa using hp
variable {w:World} {spare:Nat→Bool} {held:Bool} {o:Obj} {N:az} {g:Gh UU}
theorem UT {v:Value} {n:Nat} (h:v.cells.toList.length=n+2): ∃vs:Array Value,v= .agg vs∧vs.toList=v.cells.toList:=by
 cases v with
 |agg vs=>exact ⟨vs,rfl,rfl⟩
 |_=>simp [Value.cells] at h
theorem U7 (hN: ∀b o,¬N b o) {v:Value} {d:DataW H} {ps:List MemPlace} (h:DataW.Trod enc Tryz.prog w 0 spare held 26 v d ps): ∃t:Tm,Rep (LL o) w N g v (.agg (dz ET.T t))∧QT t d:=by
 obtain ⟨n,hn⟩:=h
 obtain ⟨t,hr,hq⟩:=(acl (o:=o) (g:=g) hN n).1 _ _ _ hn
 obtain ⟨_,_,_,_,hl,_,_⟩:=DataW.trod_struct Tryz.underlying26 hn
 have hl6:v.cells.toList.length=6:=hl.trans (by kernel_rfl)
 obtain ⟨vs,rfl,hvs⟩:=UT (n:=4) hl6
 refine ⟨t,Rep.agg (X:=LL o) vs (dz ET.T t) (by rw [←Array.length_toList,hvs,hl6];rfl) fun j p hp=> ?_,hq⟩
 obtain ⟨v',hv',hr'⟩:=hr j p hp
 have:vs.getD j undef=v':=by
  have h2:vs[j]? =some v':=by rw [←Array.getElem?_toList,hvs];exact hv'
  rw [Array.getD_eq_getD_getElem?,h2];rfl
 rw [this];exact hr'
theorem YA {o:Obj} {W:World} (h0:W.heap[0]? =some o) {vs:Array Value} {ps:List PU} (hs:vs.size=ps.length) (hp:ps.all PV.notFresh=true)
  (h: ∀ (j:Nat) p,ps[j]? =some p→Rep (LL o) W (NB (fun _ _=>False) 0 (fun _=>0) fun _=>none) (gB UU 0 fun _=>0) (vs.getD j undef) p):Given (LL o) W vs (fun _ _=>False) (fun _=>0) (fun _=>none) ps [] where
 bnd:=⟨fun i j hi=>absurd hi (Nat.not_lt_zero i),fun i hi=>absurd hi (Nat.not_lt_zero i),fun j b h=>(by cases h),fun i j b h=>(by cases h),fun j b h=>(by cases h),fun b o h=>h.elim⟩
 size:=hs
 dom:=fun j b h=>by cases h
 glob:=fun b o' hb=>by
  simp [LL] at hb
  obtain ⟨rfl,rfl⟩:=hb
  exact ⟨h0,fun i hi=>absurd hi (Nat.not_lt_zero i),fun j h=>by cases h⟩
 args:=fun j p hj=>RepG.of (h j p hj)
 boxes:=fun k b h=>by simp at h
theorem noN: ∀b o,¬NB (fun _ _=>False) 0 (fun _=>0) (fun _=>none) b o:=by
 rintro b o (h|⟨k,hk,_⟩|⟨j,h⟩)
 ·exact h
 ·exact absurd hk (Nat.not_lt_zero k)
 ·cases h
theorem Vl {o:Obj} {f:FuncId} {ps:List PU} (hok:bL (LL o) f ps [] (.ret (.bool true) [])) {W:World} {vs:Array Value} (hg:Given (LL o) W vs (fun _ _=>False) (fun _=>0) (fun _=>none) ps []):
  Calls Tryz.prog f vs W fun e W'=>e= .returned (.bool true)∧Kept W W':=by
 refine (hok.2 W vs _ _ _ hg).mono ?_
 rintro e W' he
 cases e with
 |returned rv=>
  obtain ⟨ν',δ',hb,hr⟩:=he
  have hr:Rep (LL o) W' _ _ rv (.bool true):=hr
  cases hr
  refine ⟨rfl,hb.ext.os,hb.ext.output,hb.ext.size,fun b hb'=>hb.ext.block b hb' fun hm=> ?_⟩
  simp [lS] at hm
 |panicked ch=>exact he.elim
 |outgrown=>exact he.elim
theorem afH {H:Type}:(Rows.laid_math_bits_deBruijn32tab:DataW H)=Lib.tabData .u8 (Lib.deBruijn32tab.map fun n:Nat=>(n:Int)):=rfl
theorem afI {W:World} (h:laidMetH Tryz.prog [("math/bits.deBruijn32tab",Rows.laid_math_bits_deBruijn32tab)] W): ∃o,af o∧W.heap[0]? =some o:=by
 have h':laidMet Tryz.prog [("math/bits.deBruijn32tab",Rows.laid_math_bits_deBruijn32tab)] W:=h
 rw [afH] at h'
 have ht:Lib.TabIs Tryz.prog W "math/bits.deBruijn32tab" .u8 (Lib.deBruijn32tab.map fun n:Nat=>(n:Int)):=
  Lib.tabIs_of_head (rest:=[]) GW (by kernel_rfl) Tryz.underlying296 Tryz.underlying5 (by kernel_rfl) (by kernel_rfl) h'
 have hc: ∀j,j<Lib.deBruijn32tab.length→W.cell? ⟨0,j,none⟩=some (.int .u8 (Lib.deBruijn32tab.getD j 0:Nat)):=fun j hj=>by
  rw [ht.cell GW j (by simpa using hj)]
  simp [List.getD,hj]
 have h0:=hc 0 (by decide)
 cases hh:W.heap[0]? with
 |none=>simp [World.cell?,hh] at h0
 |some o=>
  cases o with
  |cells cur e fr=>
   refine ⟨_,⟨cur,e,fr,rfl,fun j hj=> ?_⟩,rfl⟩
   have:=hc j hj
   simpa [World.cell?,hh] using this
  |_=>simp [World.cell?,hh] at h0
end
end Go.Proofs.YtehekgbehghgdaaGreatDoor
namespace Go.Proofs.YtehekgbehghgdaaGreatDoor
open Go PI
set_option linter.unusedVariables false
set_option linter.unusedSimpArgs false
set_option maxRecDepth 100000
noncomputable section
abbrev Rw (S:Type):=List PU→List (Box UU)→(Out UU→Option S)→Option S
abbrev Kn (S:Type):=(Out UU→Option S)→Option S
noncomputable def iI (n:Int):PU:= .int .i64 n
noncomputable def iU (n:Int):PU:= .int .u32 n
noncomputable def pt (i:Nat):PU:= .ptr i 0
noncomputable def aT (t:Tm):PU:= .agg [.int .i64 t.kind,.int .i64 t.n,.str t.name,bD t.r .none,df t.kids .none,de t.sys .none]
noncomputable def aC (c:Cl):PU:= .agg [.int .u32 c.pos,.int .u32 c.neg]
noncomputable def aB (b:Br Tm):PU:= .agg [bD b.face .none,df b.kids .none]
noncomputable def bT (t:Tm):Box UU:= .cells [.int .i64 t.kind,.int .i64 t.n,.str t.name,bD t.r .none,df t.kids .none,de t.sys .none]
noncomputable def bC (c:Cl):Box UU:= .cells [.int .u32 c.pos,.int .u32 c.neg]
noncomputable def bB (b:Br Tm):Box UU:= .cells [bD b.face .none,df b.kids .none]
noncomputable def bI (n:Int):Box UU:= .cells [.int .i64 n]
noncomputable def bb (b:Bool):Box UU:= .cells [.bool b]
noncomputable def sC (l:List Cl):PU:=bD l .none
noncomputable def sT (l:List Tm):PU:=df l .none
noncomputable def sB (l:List (Br Tm)):PU:=de l .none
structure Cd where
 D:Type→Type
 k:{ρ:Type}→ρ→D ρ
 dec:{ρ:Type}→D ρ→PU→Option ρ
 A:{ρ:Type}→D ρ→(PU→ρ→Prop)→Prop
 law: ∀ {ρ:Type} (f:D ρ) (v:PU) (r:ρ) (Q:PU→ρ→Prop),A f Q→dec f v=some r→Q v r
structure Cs where
 D:Type→Type
 n:Nat
 k:{ρ:Type}→ρ→D ρ
 dec:{ρ:Type}→D ρ→List PU→Option ρ
 A:{ρ:Type}→D ρ→(List PU→ρ→Prop)→Prop
 law: ∀ {ρ:Type} (f:D ρ) (v:List PU) (r:ρ) (Q:List PU→ρ→Prop),A f Q→dec f v=some r→Q v r
 len: ∀ {ρ:Type} (f:D ρ) (v:List PU) (r:ρ),dec f v=some r→v.length=n
structure Bs where
 D:Type→Type
 n:Nat
 k:{ρ:Type}→ρ→D ρ
 dec:{ρ:Type}→D ρ→List (Box UU)→Option ρ
 A:{ρ:Type}→D ρ→(List (Box UU)→ρ→Prop)→Prop
 law: ∀ {ρ:Type} (f:D ρ) (v:List (Box UU)) (r:ρ) (Q:List (Box UU)→ρ→Prop),A f Q→dec f v=some r→Q v r
 len: ∀ {ρ:Type} (f:D ρ) (v:List (Box UU)) (r:ρ),dec f v=some r→v.length=n
noncomputable def cn:Cs where
 D ρ:=ρ
 n:=0
 k r:=r
 dec f:=fun|[]=>some f|_=> .none
 A f Q:=Q [] f
 law f v r Q h e:=by split at e<;>cases e;exact h
 len f v r e:=by split at e<;>cases e;rfl
noncomputable def cc (c:Cd) (s:Cs):Cs where
 D ρ:=c.D (s.D ρ)
 n:=s.n+1
 k r:=c.k (s.k r)
 dec f:=fun|v::l=>(c.dec f v).bind fun g=>s.dec g l|[]=> .none
 A f Q:=c.A f fun v g=>s.A g fun l r=>Q (v::l) r
 law f v r Q h e:=by
  split at e
  ·obtain ⟨g,h1,h2⟩:=Option.bind_eq_some_iff.1 e
   have:=s.law g _ r _ (c.law f _ g _ h h1) h2;exact this
  ·cases e
 len f v r e:=by
  split at e
  ·obtain ⟨g,h1,h2⟩:=Option.bind_eq_some_iff.1 e
   simp [s.len g _ r h2]
  ·cases e
noncomputable def xn:Bs where
 D ρ:=ρ
 n:=0
 k r:=r
 dec f:=fun|[]=>some f|_=> .none
 A f Q:=Q [] f
 law f v r Q h e:=by split at e<;>cases e;exact h
 len f v r e:=by split at e<;>cases e;rfl
noncomputable def xc (c:Cs) (s:Bs):Bs where
 D ρ:=c.D (s.D ρ)
 n:=s.n+1
 k r:=c.k (s.k r)
 dec f:=fun| .cells v::l=>(c.dec f v).bind fun g=>s.dec g l|_=> .none
 A f Q:=c.A f fun v g=>s.A g fun l r=>Q (.cells v::l) r
 law f v r Q h e:=by
  split at e
  ·obtain ⟨g,h1,h2⟩:=Option.bind_eq_some_iff.1 e
   have:=s.law g _ r _ (c.law f _ g _ h h1) h2;exact this
  ·cases e
 len f v r e:=by
  split at e
  ·obtain ⟨g,h1,h2⟩:=Option.bind_eq_some_iff.1 e
   simp [s.len g _ r h2]
  ·cases e
noncomputable def cI:Cd where
 D ρ:=Int→ρ
 k r:=fun _=>r
 dec f:=fun| .int .i64 n=>some (f n)|_=> .none
 A f Q:= ∀n:Int,Q (iI n) (f n)
 law f v r Q h e:=by split at e<;>cases e;exact h _
noncomputable def cU:Cd where
 D ρ:=Int→ρ
 k r:=fun _=>r
 dec f:=fun| .int .u32 n=>some (f n)|_=> .none
 A f Q:= ∀n:Int,Q (iU n) (f n)
 law f v r Q h e:=by split at e<;>cases e;exact h _
noncomputable def cN (kd:IntKind):Cd where
 D ρ:=Int→ρ
 k r:=fun _=>r
 dec f:=fun| .int q n=>(match decEq q kd with| .isTrue _=>some (f n)| .isFalse _=> .none)|_=> .none
 A f Q:= ∀n:Int,Q (.int kd n) (f n)
 law f v r Q h e:=by
  split at e
  ·split at e
   ·rename_i hq _;subst hq;cases e;exact h _
   ·cases e
  ·cases e
noncomputable def cb:Cd where
 D ρ:=Bool→ρ
 k r:=fun _=>r
 dec f:=fun| .bool n=>some (f n)|_=> .none
 A f Q:= ∀n:Bool,Q (.bool n) (f n)
 law f v r Q h e:=by split at e<;>cases e;exact h _
noncomputable def cs:Cd where
 D ρ:=ByteArray→ρ
 k r:=fun _=>r
 dec f:=fun| .str n=>some (f n)|_=> .none
 A f Q:= ∀n:ByteArray,Q (.str n) (f n)
 law f v r Q h e:=by split at e<;>cases e;exact h _
noncomputable def lC:Cd where
 D ρ:=List Cl→ρ
 k r:=fun _=>r
 dec f:=fun| .sl .C n .none=>some (f n)|_=> .none
 A f Q:= ∀n:List Cl,Q (sC n) (f n)
 law f v r Q h e:=by split at e<;>cases e;exact h _
noncomputable def lT:Cd where
 D ρ:=List Tm→ρ
 k r:=fun _=>r
 dec f:=fun| .sl .T n .none=>some (f n)|_=> .none
 A f Q:= ∀n:List Tm,Q (sT n) (f n)
 law f v r Q h e:=by split at e<;>cases e;exact h _
noncomputable def lB:Cd where
 D ρ:=List (Br Tm)→ρ
 k r:=fun _=>r
 dec f:=fun| .sl .B n .none=>some (f n)|_=> .none
 A f Q:= ∀n:List (Br Tm),Q (sB n) (f n)
 law f v r Q h e:=by split at e<;>cases e;exact h _
noncomputable def lI:Cd where
 D ρ:=List Int→ρ
 k r:=fun _=>r
 dec f:=fun| .sl .I n .none=>some (f n)|_=> .none
 A f Q:= ∀n:List Int,Q (gj n .none) (f n)
 law f v r Q h e:=by split at e<;>cases e;exact h _
noncomputable def lF:Cd where
 D ρ:=List (List Cl)→ρ
 k r:=fun _=>r
 dec f:=fun| .sl .F n .none=>some (f n)|_=> .none
 A f Q:= ∀n:List (List Cl),Q (Dx n .none) (f n)
 law f v r Q h e:=by split at e<;>cases e;exact h _
noncomputable def hC:Cd where
 D ρ:=List Cl→ρ
 k r:=fun _=>r
 dec f:=fun| .fresh .C n=>some (f n)|_=> .none
 A f Q:= ∀n:List Cl,Q (A0 n) (f n)
 law f v r Q h e:=by split at e<;>cases e;exact h _
noncomputable def cT:Cd where
 D ρ:=Tm→ρ
 k r:=fun _=>r
 dec f:=fun| .agg [.int .i64 a,.int .i64 b,.str c,.sl .C d .none,.sl .T e .none,.sl .B g .none]=>some (f (Tm.mk a b c d e g))|_=> .none
 A f Q:= ∀t:Tm,Q (aT t) (f t)
 law f v r Q h e:=by split at e<;>cases e;exact h (Tm.mk _ _ _ _ _ _)
noncomputable def cC:Cd where
 D ρ:=Cl→ρ
 k r:=fun _=>r
 dec f:=fun| .agg [.int .u32 a,.int .u32 b]=>some (f ⟨a,b⟩)|_=> .none
 A f Q:= ∀t:Cl,Q (aC t) (f t)
 law f v r Q h e:=by split at e<;>cases e;exact h (⟨_,_⟩)
noncomputable def xT (s:Bs):Bs where
 D ρ:=Tm→s.D ρ
 n:=s.n+1
 k r:=fun _=>s.k r
 dec f:=fun| .cells [.int .i64 a,.int .i64 b,.str c,.sl .C d .none,.sl .T e .none,.sl .B g .none]::l=>s.dec (f (Tm.mk a b c d e g)) l|_=> .none
 A f Q:= ∀t:Tm,s.A (f t) fun l r=>Q (bT t::l) r
 law f v r Q h e:=by
  split at e
  ·have:=s.law _ _ r _ (h (Tm.mk _ _ _ _ _ _)) e;exact this
  ·cases e
 len f v r e:=by
  split at e
  ·simp [s.len _ _ r e]
  ·cases e
noncomputable def xC (s:Bs):Bs where
 D ρ:=Cl→s.D ρ
 n:=s.n+1
 k r:=fun _=>s.k r
 dec f:=fun| .cells [.int .u32 a,.int .u32 b]::l=>s.dec (f ⟨a,b⟩) l|_=> .none
 A f Q:= ∀t:Cl,s.A (f t) fun l r=>Q (bC t::l) r
 law f v r Q h e:=by
  split at e
  ·have:=s.law _ _ r _ (h (⟨_,_⟩)) e;exact this
  ·cases e
 len f v r e:=by
  split at e
  ·simp [s.len _ _ r e]
  ·cases e
noncomputable def xI (s:Bs):Bs where
 D ρ:=Int→s.D ρ
 n:=s.n+1
 k r:=fun _=>s.k r
 dec f:=fun| .cells [.int .i64 a]::l=>s.dec (f a) l|_=> .none
 A f Q:= ∀t:Int,s.A (f t) fun l r=>Q (bI t::l) r
 law f v r Q h e:=by
  split at e
  ·have:=s.law _ _ r _ (h _) e;exact this
  ·cases e
 len f v r e:=by
  split at e
  ·simp [s.len _ _ r e]
  ·cases e
noncomputable def cp (i:Nat):Cd where
 D ρ:=ρ
 k r:=r
 dec f:=fun| .ptr j 0=>(match decEq j i with| .isTrue _=>some f| .isFalse _=> .none)|_=> .none
 A f Q:=Q (pt i) f
 law f v r Q h e:=by
  split at e
  ·split at e
   ·rename_i hq _;subst hq;cases e;exact h
   ·cases e
  ·cases e
noncomputable def cg (s:Cs):Cd where
 D ρ:=s.D ρ
 k r:=s.k r
 dec f:=fun| .agg l=>s.dec f l|_=> .none
 A f Q:=s.A f fun l r=>Q (.agg l) r
 law f v r Q h e:=by
  split at e
  ·have:=s.law f _ r _ h e;exact this
  ·cases e
noncomputable def cf (i:Nat) (s:Cs) (u:Cs):Cd where
 D ρ:=s.D (u.D ρ)
 k r:=s.k (u.k r)
 dec f:=fun| .func j l m=>(match decEq j i with| .isTrue _=>(s.dec f l).bind fun g=>u.dec g m| .isFalse _=> .none)|_=> .none
 A f Q:=s.A f fun l g=>u.A g fun m r=>Q (.func i l m) r
 law f v r Q h e:=by
  split at e
  ·split at e
   ·rename_i hq _
    subst hq
    obtain ⟨g,h1,h2⟩:=Option.bind_eq_some_iff.1 e
    have:=u.law g _ r _ (s.law f _ g _ h h1) h2;exact this
   ·cases e
  ·cases e
noncomputable def ag {S:Type} (K:Cs) (B:Bs) (F:K.D (B.D (Kn S))):Rw S:=fun vs bs κ=>(K.dec F vs).bind fun g=>(B.dec g bs).bind fun h=>h κ
noncomputable def qV (K:Cs) (B:Bs) (vs:List PU) (bs:List (Box UU)):Bool:=((K.dec (K.k (B.k ())) vs).bind fun g=>B.dec g bs).isSome
noncomputable def AA {S:Type} (K:Cs) (B:Bs) (F:K.D (B.D (Kn S))) (Q:List PU→List (Box UU)→Kn S→Prop):Prop:=K.A F fun vs g=>B.A g fun bs h=>Q vs bs h
theorem wP {S:Type} {K:Cs} {B:Bs} {F:K.D (B.D (Kn S))} {Q:List PU→List (Box UU)→Kn S→Prop} (hA:AA K B F Q) {vs:List PU} {bs:List (Box UU)} {κ:Out UU→Option S} {x:S} (h:ag K B F vs bs κ=some x):
  ∃g,Q vs bs g∧g κ=some x∧vs.length=K.n∧bs.length=B.n:=by
 obtain ⟨g,h1,h2⟩:=Option.bind_eq_some_iff.1 h
 obtain ⟨u,h3,h4⟩:=Option.bind_eq_some_iff.1 h2
 have:=K.law F vs g _ hA h1
 have:=B.law g bs u _ this h3
 exact ⟨u,this,h4,K.len _ _ _ h1,B.len _ _ _ h3⟩
noncomputable def Tl {S:Type} (o:Obj) (f:Nat) (r:Rw S):Prop:= ∀vs bs κ x,r vs bs κ=some x→ ∃out,bL (LL o) f vs bs out∧κ out=some x
noncomputable def sb {S:Type}:List (Nat×Rw S)→Oracle UU S
 |[],_,_,_,_=> .none
 |(g,r)::l,f,vs,bs,κ=>bif Nat.beq f g then r vs bs κ else sb l f vs bs κ
noncomputable def TA {S:Type} (o:Obj):List (Nat×Rw S)→Prop
 |[]=>True
 |(f,r)::l=>Tl o f r∧TA o l
theorem TA.tells {S:Type} {o:Obj}: ∀ {l:List (Nat×Rw S)},TA o l→(sb l).Tells (bL (LL o))
 |[],_,f,vs,bs,κ,x,h=>by cases h
 |(g,r)::l,hl,f,vs,bs,κ,x,h=>by
  unfold sb at h
  cases hb:Nat.beq f g with
  |true=>
   rw [hb] at h
   have:=Nat.eq_of_beq_eq_true hb
   subst this
   exact hl.1 _ _ _ _ h
  |false=>
   rw [hb] at h
   exact TA.tells hl.2 _ _ _ _ _ h
noncomputable def lZ {S:Type} (b:List PU→List (Box UU)→Bool) (r q:Rw S):Rw S:=fun vs bs κ=>bif b vs bs then r vs bs κ else q vs bs κ
theorem sg {S:Type} {o:Obj} {f:Nat} {b:List PU→List (Box UU)→Bool} {r q:Rw S} (h1:Tl o f r) (h2:Tl o f q):Tl o f (lZ b r q):=fun vs bs κ x h=>by
 unfold lZ at h
 rcases Vb h with h|h
 ·exact h1 _ _ _ _ h
 ·exact h2 _ _ _ _ h
structure Fx (S:Type) where
 sd:Side UU
 rows:List (Nat×Rw S)
 loops:List (Nat×Ann×List Bool)
 k:Nat
 fn:Func
 kp:Bool
 hn:List Bool
 nb:Nat
 cd:Option (PU→Oracle UU S)
noncomputable def Ff:List (Nat×Ann×List Bool)→Nat→Option Ann
 |[],_=> .none
 |(i,a,_)::l,n=>bif Nat.beq n i then some a else Ff l n
noncomputable def BN:List (Nat×Ann×List Bool)→Nat→Ann×List Bool
 |[],_=>(⟨[],[]⟩,[])
 |(i,a)::l,n=>bif Nat.beq n i then a else BN l n
noncomputable def aI (rs:List Nat) (bs:List (Nat×Nat)):Ann:=⟨rs.map fun n=>(n,.none),bs.map fun p=>(p.1,List.replicate p.2 .none)⟩
noncomputable def ao:Nat→Nat→List Bool
 |0,_=>[]
 |n+1,b=>Nat.beq (b%2) 1::ao n (b/2)
noncomputable def fx {S:Type} (nt:Nat) (gv:Nat→List Bool) (ip:Nat→Bool) (rows:List (Nat×Rw S)) (loops:List (Nat×Ann×List Bool)) (k:Nat) (fn:Func) (kp:Bool) (hn:List Bool) (nb:Nat):Fx S:=
 ⟨⟨nt,gv,ip,.none,fun _=>false⟩,rows,loops,k,fn,kp,hn,nb,.none⟩
noncomputable def fp {S:Type} (nt:Nat) (rows:List (Nat×Rw S)) (loops:List (Nat×Ann×List Bool)) (k:Nat) (fn:Func) (nb:Nat):Fx S:=fx nt (fun _=>[]) (fun _=>false) rows loops k fn false [] nb
variable {S:Type}
noncomputable def Fx.oc (F:Fx S):Oracle UU S:=sb F.rows
noncomputable def Fx.an (F:Fx S):Nat→Option Ann:=Ff F.loops
noncomputable def Fx.go (F:Fx S) (c:Code) (σ:St UU) (κ:Ex UU→St UU→Option S):Option S:=PI.run VV F.sd F.oc F.an F.k c σ κ
noncomputable def Fx.kt (F:Fx S) (κ:Out UU→Option S) (p:List Bool) (κs:List (St UU→Option S)):Ex UU→St UU→Option S:=match F.cd with
 | .none=>jS VV F.sd F.oc F.an F.k (fc F.fn) p κs F.an (kF VV F.oc F.kp F.hn F.fn F.nb κ)
 |some C=>HH VV F.sd F.oc F.an F.k (fc F.fn) p κs F.an (kF VV F.oc F.kp F.hn F.fn F.nb κ) (kD VV F.oc C F.kp F.hn F.fn F.nb κ)
noncomputable def Fx.run (F:Fx S) (vs:List PU) (bs:List (Box UU)) (κ:Out UU→Option S):Option S:=match F.cd with
 | .none=>oG VV F.sd F.oc F.an F.k F.kp F.hn F.fn vs bs κ
 |some C=>Db VV F.sd F.oc F.an F.k C F.kp F.hn F.fn vs bs κ
noncomputable def Fx.A (F:Fx S) (i:Nat):Ann:=(BN F.loops i).1
noncomputable def Fx.p (F:Fx S) (i:Nat):List Bool:=(BN F.loops i).2
noncomputable def Fx.lp (F:Fx S) (κ:Out UU→Option S) (i:Nat) (κs:List (St UU→Option S)) (n:Nat) (σ:St UU):Option S:=
 rx (dj (F.A i)) (fun σ κ=>F.go (gy (fc F.fn) (F.p i++[false])) σ κ) n σ (F.kt κ (F.p i) κs)
noncomputable def Fx.st (F:Fx S) (κ:Out UU→Option S) (i:Nat) (κs:List (St UU→Option S)) (r:St UU→Option S) (σ:St UU):Option S:=
 F.go (gy (fc F.fn) (F.p i++[false])) σ (back (dj (F.A i)) r (F.kt κ (F.p i) κs))
noncomputable def Fx.jn (F:Fx S) (κ:Out UU→Option S) (i:Nat) (κs:List (St UU→Option S)) (n:Nat) (σ:St UU):Option S:=
 Bc (fun σ κ=>F.go (gy (fc F.fn) (F.p i)) σ κ) n σ (F.kt κ (F.p i) κs)
noncomputable def Fx.sj (F:Fx S) (κ:Out UU→Option S) (i:Nat) (κs:List (St UU→Option S)) (σ:St UU):Option S:=F.go (gy (fc F.fn) (F.p i)) σ (F.kt κ (F.p i) κs)
theorem Fx.lp_succ (F:Fx S) (κ:Out UU→Option S) (i:Nat) (κs:List (St UU→Option S)) (n:Nat) (σ:St UU):F.lp κ i κs (n+1) σ=F.st κ i κs (fun τ=>F.lp κ i κs n τ) σ:=rfl
theorem Fx.jn_succ (F:Fx S) (κ:Out UU→Option S) (i:Nat) (κs:List (St UU→Option S)) (n:Nat) (σ:St UU):F.jn κ i κs (n+1) σ=F.sj κ i κs σ:=rfl
noncomputable def sc (F:Fx S) (n m:Nat):Bool:=(F.fn.name== "runtime.NumGoroutine")==false&&(F.fn.body.isNone==false&&(Nat.beq F.fn.ntmps F.sd.nt&&(Nat.ble F.sd.nt 1000000&&(Nat.ble n F.sd.nt&&Nat.ble m 1000000))))
theorem Ch {F:Fx S} {n m:Nat} (h:sc F n m=true):(F.fn.name== "runtime.NumGoroutine")=false∧F.fn.body.isNone=false∧F.fn.ntmps=F.sd.nt∧F.sd.nt≤1000000∧n≤F.sd.nt∧m≤1000000:=by
 unfold sc at h
 simp only [Bool.and_eq_true,beq_iff_eq] at h
 obtain ⟨h1,h2,h3,h4,h5,h6⟩:=h
 exact ⟨h1,h2,Nat.eq_of_beq_eq_true h3,Nat.le_of_ble_eq_true h4,Nat.le_of_ble_eq_true h5,Nat.le_of_ble_eq_true h6⟩
theorem ah {o:Obj} {K:Cs} {B:Bs} {R:K.D (B.D (Kn S))} (F:Fx S) {f:FuncId} (ht:TA o F.rows) (hf:Tryz.prog.funcs[f]? =some F.fn) (hb:sc F K.n B.n=true) (run:AA K B R fun vs bs g=> ∀κ x,g κ=some x→F.run vs bs κ=some x)
  (h1:F.sd.rcv= .none:=by rfl) (h2:F.sd.pin=(fun _=>false):=by rfl) (h3:F.cd= .none:=by rfl):Tl o f (ag K B R):=fun vs bs κ x h=>by
 obtain ⟨g,hg,hx,hl,hm⟩:=wP run h
 have hr:=hg κ x hx
 unfold Fx.run at hr
 rw [h3] at hr
 obtain ⟨b1,b2,b3,b4,b5,b6⟩:=Ch hb
 exact sw (ME wO (wm o) h1 h2 ht.tells hf b1 b2 b3 b4 (by omega) hr)
open Classical in
noncomputable def zX {S:Type} (bs:List (Box UU)) (κ:Out UU→Option S):Out UU→Option S
 | .ret v cs=>if cs=bs then κ (.ret v []) else .none
 | .panic .. => .none
theorem tlS {S:Type} {o:Obj} {K:Cs} {B:Bs} {R:K.D (B.D (Kn S))} {f:FuncId} {r:Rw S} (h:Tl o f r) (run:AA K B R fun vs bs g=> ∀κ x,g κ=some x→r vs bs (zX bs κ)=some x):Tl o f (ag K B R):=fun vs bs κ x hx=>by
 obtain ⟨g,hg,hx,_⟩:=wP run hx
 obtain ⟨out,hok,hκ⟩:=h _ _ _ _ (hg κ x hx)
 cases out with
 |panic v cs=>cases hκ
 |ret v cs=>
  simp only [zX] at hκ
  split at hκ
  case isFalse=>cases hκ
  rename_i hc
  subst hc
  refine ⟨.ret v [], ?_,hκ⟩
  have e:Out.full cs (.ret v [])=Out.full cs (.ret v cs):=by
   have hb:Nat.ble cs.length cs.length=true:=by simp
   simp only [Out.full,hb,cond_true]
   cases cs<;>rfl
  unfold bL
  rw [e]
  exact hok
theorem dv {o:Obj} {K:Cs} {B:Bs} {R:K.D (B.D (Kn S))} {f:FuncId} (h0:AA K B R fun vs bs g=> ∀κ x,g κ=some x→False):Tl o f (ag K B R):=fun vs bs κ x h=>by
 obtain ⟨g,hg,hx,_⟩:=wP h0 h
 exact (hg κ x hx).elim
noncomputable def mC (nt f:Nat) (fn:Func) (k:Nat):PU→Oracle UU S:=fun v g vs bs κ=>bif Nat.beq g f&&Nat.ble vs.length nt then Dc VV ⟨nt,fun _=>[],fun _=>false,.none,fun _=>false⟩ (sb []) (fun _=> .none) k true [] fn v vs bs κ else .none
theorem uD (o:Obj) {nt f:Nat} {fn:Func} {k:Nat} (hf:Tryz.prog.funcs[f]? =some fn) (hb:sc (fp nt [] [] k fn 0:Fx S) 0 0=true): ∀v u u',RcvOK v u u'→(mC (S:=S) nt f fn k v).Tells (il (LL o) (ic Tryz.prog u u')):=by
 intro v u u' hv g vs bs κ x h
 unfold mC at h
 cases hc:Nat.beq g f&&Nat.ble vs.length nt with
 |false=>rw [hc] at h;cases h
 |true=>
  rw [hc] at h
  rw [Bool.and_eq_true] at hc
  have:=Nat.eq_of_beq_eq_true hc.1
  subst this
  obtain ⟨b1,b2,b3,b4,_,_⟩:=Ch hb
  exact sw (adp wO (wm o) rfl rfl (TA.tells (l:=[]) (o:=o) trivial) hf b1 b2 b3 b4 hv (Nat.le_of_ble_eq_true hc.2) h)
theorem yj {o:Obj} {K:Cs} {B:Bs} {R:K.D (B.D (Kn S))} (F:Fx S) {f:FuncId} {C:PU→Oracle UU S} (h3:F.cd=some C) (hC: ∀v u u',RcvOK v u u'→(C v).Tells (il (LL o) (ic Tryz.prog u u'))) (ht:TA o F.rows) (hf:Tryz.prog.funcs[f]? =some F.fn) (hb:sc F K.n B.n=true)
  (run:AA K B R fun vs bs g=> ∀κ x,g κ=some x→F.run vs bs κ=some x) (h1:F.sd.rcv= .none:=by rfl):Tl o f (ag K B R):=fun vs bs κ x h=>by
 obtain ⟨g,hg,hx,hl,hm⟩:=wP run h
 have hr:=hg κ x hx
 unfold Fx.run at hr
 rw [h3] at hr
 obtain ⟨b1,b2,b3,b4,b5,b6⟩:=Ch hb
 exact sw (adn wO (wm o) h1 ht.tells hC hf b1 b2 b3 b4 (by omega) (by omega) hr)
theorem gO {F:Fx S} {κ:Out UU→Option S} {i:Nat} {κs:List (St UU→Option S)} {mk:St UU} {l:Nat→Option S} (b:Option S) (h0:l 0= .none) (hs: ∀n,l (n+1)=b) (B:F.sj κ i κs mk=b): ∀ (n:Nat),F.jn κ i κs n mk=l n:=by
 intro n
 cases n with
 |zero=>intros;rw [h0];rfl
 |succ n=>intros;rw [hs,Fx.jn_succ];exact B
theorem ca {F:Fx S} {κ:Out UU→Option S} {i:Nat} {κs:List (St UU→Option S)} {α0:Type} {mk:α0→St UU} {l:Nat→α0→Option S} (b:(α0→Option S)→α0→Option S) (h0:l 0=fun x0=> .none) (hs: ∀n,l (n+1)=b (l n)) (B: ∀ (r:St UU→Option S) x0,F.st κ i κs r (mk x0)=b (fun x0=>r (mk x0)) x0): ∀ (n:Nat) x0,F.lp κ i κs n (mk x0)=l n x0:=by
 intro n
 induction n with
 |zero=>intros;rw [h0];rfl
 |succ n ih=>
  intros
  rw [hs,Fx.lp_succ,B]
  exact congrArg (fun g=>b g _) (funext fun x0=>ih x0)
theorem Ba {F:Fx S} {κ:Out UU→Option S} {i:Nat} {κs:List (St UU→Option S)} {α0:Type} {mk:α0→St UU} {l:Nat→α0→Option S} (b:α0→Option S) (h0:l 0=fun x0=> .none) (hs: ∀n,l (n+1)=b) (B: ∀x0,F.sj κ i κs (mk x0)=b x0): ∀ (n:Nat) x0,F.jn κ i κs n (mk x0)=l n x0:=by
 intro n
 cases n with
 |zero=>intros;rw [h0];rfl
 |succ n=>intros;rw [hs,Fx.jn_succ];exact B _
theorem aE {F:Fx S} {κ:Out UU→Option S} {i:Nat} {κs:List (St UU→Option S)} {α0 α1:Type} {mk:α0→α1→St UU} {l:Nat→α0→α1→Option S} (b:(α0→α1→Option S)→α0→α1→Option S) (h0:l 0=fun x0 x1=> .none) (hs: ∀n,l (n+1)=b (l n)) (B: ∀ (r:St UU→Option S) x0 x1,F.st κ i κs r (mk x0 x1)=b (fun x0 x1=>r (mk x0 x1)) x0 x1): ∀ (n:Nat) x0 x1,F.lp κ i κs n (mk x0 x1)=l n x0 x1:=by
 intro n
 induction n with
 |zero=>intros;rw [h0];rfl
 |succ n ih=>
  intros
  rw [hs,Fx.lp_succ,B]
  exact congrArg (fun g=>b g _ _) (funext fun x0=>funext fun x1=>ih x0 x1)
theorem Hl {F:Fx S} {κ:Out UU→Option S} {i:Nat} {κs:List (St UU→Option S)} {α0 α1:Type} {mk:α0→α1→St UU} {l:Nat→α0→α1→Option S} (b:α0→α1→Option S) (h0:l 0=fun x0 x1=> .none) (hs: ∀n,l (n+1)=b) (B: ∀x0 x1,F.sj κ i κs (mk x0 x1)=b x0 x1): ∀ (n:Nat) x0 x1,F.jn κ i κs n (mk x0 x1)=l n x0 x1:=by
 intro n
 cases n with
 |zero=>intros;rw [h0];rfl
 |succ n=>intros;rw [hs,Fx.jn_succ];exact B _ _
theorem d_ {F:Fx S} {κ:Out UU→Option S} {i:Nat} {κs:List (St UU→Option S)} {α0 α1 α2:Type} {mk:α0→α1→α2→St UU} {l:Nat→α0→α1→α2→Option S} (b:(α0→α1→α2→Option S)→α0→α1→α2→Option S) (h0:l 0=fun x0 x1 x2=> .none) (hs: ∀n,l (n+1)=b (l n)) (B: ∀ (r:St UU→Option S) x0 x1 x2,F.st κ i κs r (mk x0 x1 x2)=b (fun x0 x1 x2=>r (mk x0 x1 x2)) x0 x1 x2): ∀ (n:Nat) x0 x1 x2,F.lp κ i κs n (mk x0 x1 x2)=l n x0 x1 x2:=by
 intro n
 induction n with
 |zero=>intros;rw [h0];rfl
 |succ n ih=>
  intros
  rw [hs,Fx.lp_succ,B]
  exact congrArg (fun g=>b g _ _ _) (funext fun x0=>funext fun x1=>funext fun x2=>ih x0 x1 x2)
end
end Go.Proofs.YtehekgbehghgdaaGreatDoor
namespace Go.Proofs.YtehekgbehghgdaaGreatDoor
open Go PI
set_option linter.unusedVariables false
set_option maxRecDepth 100000
noncomputable def tg:Side UU:=⟨8,fun _=>[],fun _=>false,.none,fun _=>false⟩
noncomputable def wU {S:Type}:Oracle UU S:=fun _ _ _ _=> .none
theorem c1 {S:Type} (κ:Out UU→Option S):oG VV tg wU (fun _=> .none) 5 false [] Tryz.f122 [.sl (U:=UU) ET.C [] .void] [] κ=κ (.ret (bD [] .none) []):=by kernel_rfl
theorem c2 {S:Type} (l:List Cl) (κ:Out UU→Option S):oG VV tg wU (fun _=> .none) 5 false [] Tryz.f122 [.sl (U:=UU) ET.C l .sure] [] κ=Option.bind (aq 1099511627776 0 l.length) fun _=>κ (.ret (bD l .none) []):=by kernel_rfl
theorem acp {S:Type} (o:Obj):(wU (S:=S)).Tells (bL (LL o)):=fun _ _ _ _ _ h=>by cases h
theorem FI (o:Obj) {args:List PU} (hl:args.length=1) {out:Out UU} (h:oG VV tg wU (fun _=> .none) 5 false [] Tryz.f122 args [] some=some out):bL (LL o) 122 args [] out:=by
 obtain ⟨out',h1,h2⟩:=ME wO (wm o) (S:=tg) rfl rfl (acp o) (f:=122) Tryz.func122 (by kernel_rfl) rfl rfl (by decide) (by rw [hl];decide) h
 injection h1 with h1
 exact h1▸h2
theorem G2 {X:Link VV Tryz.prog} {w:World} {vs:Array Value} {N0:az} {ν:Nat→Nat} {δ:Nat→Option Nat} {p q:PU} (h:Given X w vs N0 ν δ [p] [])
  (hr:RepG X w (NB N0 0 ν δ) (gB UU 0 ν) (vs.getD 0 undef) (δ 0) p→RepG X w (NB N0 0 ν δ) (gB UU 0 ν) (vs.getD 0 undef) (δ 0) q):Given X w vs N0 ν δ [q] []:=
 {h with
  args:=fun j r hj=>by
   cases j with
   |zero=>
    injection hj with hj
    subst hj
    exact hr (h.args 0 p rfl)
   |succ j=>simp at hj}
theorem Vy (o:Obj) (l:List Cl) {u:Unit} (hroom:aq 1099511627776 0 l.length=some u):bL (LL o) 122 [bD l .none] [] (.ret (bD l .none) []):=by
 refine ⟨⟨Tryz.f122,Tryz.func122,by kernel_rfl,rfl⟩,fun w vs N0 ν δ hg=> ?_⟩
 have h0:Rep (LL o) w (NB N0 0 ν δ) (gB UU 0 ν) (vs.getD 0 undef) (bD l .none):=hg.args 0 _ rfl
 generalize hv:vs.getD 0 undef=v at h0
 cases h0 with
 |sl A n c _ _ _ val hl hc _ h1 h2=>
 cases A with
 |none=>
  have hl0:l=[]:=by
   cases l with
   |nil=>rfl
   |cons x r=>
    obtain ⟨a,ha,_⟩:=h1 0 x rfl 0 _ rfl
    cases ha
  subst hl0
  exact (FI o (args:=[bD [] .void]) rfl (c1 some)).2 w vs N0 ν δ (G2 hg fun _=>by
   rw [hv];exact Rep.sl (X:=LL o) none n c ET.C (show List Cl from []) .void val hl hc rfl h1 h2)
 |some a=>
  refine (FI o (args:=[bD l .sure]) rfl (out:= .ret (bD l .none) []) ((c2 l some).trans (by rw [hroom];rfl))).2 w vs N0 ν δ (G2 hg fun _=> ?_)
  rw [hv]
  exact Rep.sl (X:=LL o) (some a) n c ET.C l .sure val hl hc (fun h=>by cases h) h1 h2
theorem afR {S:Type} (o:Obj) (ho:af o) (vs:List PU) (bs:List (Box UU)) (κ:Out UU→Option S) (x:S) (h:C_ vs bs κ=some x): ∃out,bL (LL o) Ye vs bs out∧κ out=some x:=by
 unfold C_ at h
 split at h
 case h_2=>cases h
 rename_i κ y
 unfold ow at h
 obtain ⟨u,hr,h⟩:=Option.bind_eq_some_iff.1 h
 exact ⟨_,Vy o y hr,h⟩
end Go.Proofs.YtehekgbehghgdaaGreatDoor
namespace Go.Proofs.YtehekgbehghgdaaGreatDoor
open Go PI
set_option linter.unusedVariables false
set_option maxRecDepth 100000
noncomputable section
noncomputable def rd:Cs:=cc cT (cc cI cn)
noncomputable def dp:Cs:=cc cT cn
noncomputable def ws:Cs:=cc cI (cc lT cn)
noncomputable def Hr:Cs:=cc cI (cc cI cn)
noncomputable def wt:Cs:=cc cT (cc cI (cc cI (cc (cp 0) cn)))
noncomputable def bU:Bs:=xI xn
noncomputable def Zf:Cs:=cc cT (cc (cf 280 cn (cc (cp 0) cn)) cn)
noncomputable def Zi:Cs:=cc cT (cc (cf 282 cn (cc (cp 0) cn)) cn)
noncomputable def P9:Bs:=xc (cc (cf 281 cn (cc (cp 1) (cc (cp 0) cn))) cn) (xI xn)
noncomputable def Zt:Cs:=cc cT (cc (cp 0) (cc (cp 1) cn))
noncomputable def agm:Bs:=xI (xc (cc (cf 281 cn (cc (cp 0) (cc (cp 1) cn))) cn) xn)
noncomputable def eS:Cs:=cc cI cn
noncomputable def Hn:Cs:=cc cs cn
noncomputable def re:Cs:=cc cU cn
noncomputable def lm:Cs:=cc cC cn
noncomputable def rf:Cs:=cc cC (cc cC cn)
noncomputable def Be:Cs:=cc cC (cc (cp 0) cn)
noncomputable def td:Bs:=xC xn
noncomputable def Ho:Cs:=cc lC (cc (cf 308 cn (cc (cp 0) cn)) cn)
noncomputable def agn:Bs:=xc (cc lC cn) xn
noncomputable def dK:Cs:=cc lC cn
noncomputable def gP:Cs:=cc lC (cc lC cn)
noncomputable def jR:Cs:=cc cU (cc cI cn)
noncomputable def Bf:Cs:=cc lC (cc cI cn)
noncomputable def Hp:Cs:=cc lC (cc (cf 344 cn cn) cn)
noncomputable def nn:Cs:=cc cT (cc cI (cc cI cn))
noncomputable def Hq:Cs:=cc cT (cc cI (cc cI (cc cb cn)))
noncomputable def YZ:Cs:=cc cT (cc cI (cc cI (cc (cp 0) (cc (cp 1) (cc (cp 2) cn)))))
noncomputable def P5:Bs:=xI (xI (xc (cc cb cn) xn))
noncomputable def Y0:Cs:=cc cT (cc (cf 187 cn (cc (cp 0) (cc (cp 1) (cc (cp 2) cn)))) cn)
noncomputable def Hs:Cs:=cc lT cn
noncomputable def Bg:Cs:=cc (cp 0) cn
noncomputable def Y1:Cs:=cc lB cn
noncomputable def Y2:Cs:=cc (cp 0) (cc cI cn)
noncomputable def Y3:Cs:=cc lF cn
noncomputable def Ht:Cs:=cc cU (cc cI (cc cI cn))
noncomputable def Hu:Cs:=cc cC (cc cI (cc cI cn))
noncomputable def Y4:Cs:=cc hC (cc cC (cc (cp 0) (cc (cp 1) cn)))
noncomputable def yr:Bs:=xI (xI xn)
noncomputable def Y5:Cs:=cc lC (cc hC (cc (cf 234 cn (cc (cp 0) (cc (cp 1) cn))) cn))
noncomputable def Bh:Cs:=cc lC (cc cI (cc cI cn))
noncomputable def Y6:Cs:=cc (cg (cc cI (cc cI cn))) (cc lC (cc cI cn))
noncomputable def Y7:Cs:=cc (cg (cc cI (cc cI cn))) (cc cT (cc cI (cc cI cn)))
noncomputable def Bj:Cs:=cc (cp 0) (cc (cp 1) (cc (cp 2) cn))
noncomputable def P6:Bs:=xI (xI (xT xn))
noncomputable def Y8:Cs:=cc cT (cc lI (cc (cf 199 cn (cc (cp 0) (cc (cp 1) (cc (cp 2) cn)))) cn))
noncomputable def Bk:Cs:=cc (cp 0) (cc cT (cc cI (cc cI cn)))
noncomputable def wv:Cs:=cc (cp 0) (cc cT cn)
noncomputable def Y9:Cs:=cc (cp 0) (cc lC cn)
noncomputable def yu:Bs:=xI (xT (xI xn))
noncomputable def Y_:Cs:=cc cT (cc lI (cc (cf 172 cn (cc (cp 0) (cc (cp 1) (cc (cp 2) cn)))) cn))
noncomputable def Bm:Cs:=cc cT (cc cI (cc lC cn))
noncomputable def Hv:Cs:=cc (cf 263 cn cn) (cc (cp 0) (cc (cp 1) cn))
noncomputable def te:Bs:=xI (xc (cc lC cn) xn)
noncomputable def Za:Cs:=cc (cf 264 cn cn) (cc (cp 0) (cc (cp 1) cn))
noncomputable def Zb:Cs:=cc cI (cc lC cn)
noncomputable def Zc:Cs:=cc lC (cc (cf 369 cn cn) cn)
noncomputable def Zd:Cs:=cc lC (cc (cf 370 cn (cc (cp 0) cn)) cn)
noncomputable def Hw:Cs:=cc lC (cc cC cn)
noncomputable def Ze:Cs:=cc lC (cc lC (cc (cf 367 cn cn) cn))
noncomputable def ww:Cs:=cc lC (cc cI (cc lC cn))
noncomputable def Bn:Cs:=cc lC (cc cI (cc (cp 0) (cc (cp 1) (cc (cp 2) cn))))
noncomputable def ago:Bs:=xI (xc (cc lC cn) (xc (cc (cf 264 cn cn) cn) xn))
noncomputable def Zg:Cs:=cc lC (cc cC (cc (cp 0) (cc (cp 1) cn)))
noncomputable def Zh:Cs:=cc lC (cc lC (cc (cf 330 cn (cc (cp 0) (cc (cp 1) cn))) cn))
noncomputable def P7:Bs:=xI (xc (cc lC cn) (xc (cc (cf 263 cn cn) cn) xn))
noncomputable def Bp:Cs:=cc (cg (cc (cf 259 cn (cc (cp 0) (cc (cp 1) (cc (cp 2) cn)))) (cc (cf 259 cn (cc (cp 0) (cc (cp 1) (cc (cp 3) cn)))) cn))) (cc cT (cc cI cn))
noncomputable def E7:Bs:=xI (xc (cc lC cn) (xc (cc (cf 263 cn cn) cn) (xc (cc (cf 264 cn cn) cn) xn)))
noncomputable def Hx:Cs:=cc cI (cc (cp 0) cn)
noncomputable def agp:Bs:=xT xn
noncomputable def Hy:Cs:=cc (cg (cc (cf 259 cn (cc (cp 0) (cc (cp 1) (cc (cp 2) cn)))) (cc (cf 259 cn (cc (cp 0) (cc (cp 1) (cc (cp 3) cn)))) cn))) (cc lT (cc cI (cc (cf 268 cn (cc (cp 4) cn)) cn)))
noncomputable def P8:Bs:=xI (xc (cc lC cn) (xc (cc (cf 263 cn cn) cn) (xc (cc (cf 264 cn cn) cn) (xI xn))))
noncomputable def Zj:Cs:=cc (cg (cc (cf 259 cn (cc (cp 0) (cc (cp 1) (cc (cp 2) cn)))) (cc (cf 259 cn (cc (cp 0) (cc (cp 1) (cc (cp 3) cn)))) cn))) (cc lT (cc cI (cc (cf 267 cn (cc (cp 4) cn)) cn)))
noncomputable def agq:Bs:=xI (xc (cc lC cn) (xc (cc (cf 263 cn cn) cn) (xc (cc (cf 264 cn cn) cn) (xT xn))))
noncomputable def Zk:Cs:=cc lC (cc cI (cc (cp 0) cn))
noncomputable def Hz:Cs:=cc (cg (cc (cf 269 cn (cc (cp 0) cn)) (cc (cf 269 cn (cc (cp 0) cn)) cn))) (cc cT (cc cI cn))
noncomputable def HA:Cs:=cc (cg (cc (cf 269 cn (cc (cp 0) cn)) (cc (cf 269 cn (cc (cp 0) cn)) cn))) (cc lT (cc cI (cc (cf 268 cn (cc (cp 1) cn)) cn)))
noncomputable def Zl:Cs:=cc (cg (cc (cf 269 cn (cc (cp 0) cn)) (cc (cf 269 cn (cc (cp 0) cn)) cn))) (cc lT (cc cI (cc (cf 267 cn (cc (cp 1) cn)) cn)))
noncomputable def agr:Bs:=xI (xT xn)
noncomputable def HB:Cs:=cc (cp 0) (cc cT (cc lC cn))
noncomputable def HC:Cs:=cc cT (cc cT (cc lB cn))
noncomputable def HD:Cs:=cc (cp 0) (cc cT (cc cI cn))
noncomputable def HE:Cs:=cc (cp 0) (cc cT (cc cT (cc lB cn)))
noncomputable def Zm:Cs:=cc cT (cc lI (cc (cf 221 cn (cc (cp 0) (cc (cp 1) (cc (cp 2) cn)))) cn))
noncomputable def Zn:Cs:=cc cT (cc (cf 300 cn (cc (cp 0) cn)) cn)
noncomputable def Zo:Cs:=cc cT (cc cI (cc cT (cc cI (cc cI cn))))
noncomputable def Zp:Cs:=cc cT (cc (cf 302 cn (cc (cp 0) cn)) cn)
noncomputable def Zq:Cs:=cc cT (cc cI (cc cT cn))
noncomputable def Zr:Cs:=cc (cp 0) (cc cT (cc cT cn))
noncomputable def Zs:Cs:=cc cT (cc cI (cc cT (cc (cp 0) (cc (cp 1) (cc (cp 2) cn)))))
noncomputable def ags:Bs:=xT (xI (xc (cc (cp 3) cn) (xI xn)))
noncomputable def Zu:Cs:=cc lC (cc lT cn)
noncomputable def Zv:Cs:=cc cI (cc lC (cc lT cn))
noncomputable def Zw:Cs:=cc (cp 0) (cc lC (cc cI cn))
noncomputable def Zx:Cs:=cc cI (cc lB (cc lT cn))
noncomputable def HF:Cs:=cc cT (cc cT cn)
noncomputable def Zy:Cs:=cc lT (cc lT cn)
noncomputable def Zz:Cs:=cc lI cn
noncomputable def ZA:Cs:=cc cT (cc cI (cc cI (cc cI (cc cI cn))))
noncomputable def YS:Cs:=cc cI (cc cT (cc cT cn))
noncomputable def YT:Cs:=cc cU (cc cU cn)
noncomputable def YU:Cs:=cc lC (cc cb (cc cI (cc lC (cc cI cn))))
noncomputable def YV:Cs:=cc cT (cc cI (cc lC (cc cI (cc cb cn))))
noncomputable def YW:Cs:=cc cT (cc lC (cc cT cn))
noncomputable def YX:Cs:=cc lC (cc cT (cc cT cn))
noncomputable def YY:Cs:=cc cI (cc cT cn)
noncomputable def aA {S:Type} (κ:Out UU→Option S):Int→Option S:=fun r=>κ (.ret (iI r) [])
noncomputable def av {S:Type} (κ:Out UU→Option S):Bool→Option S:=fun r=>κ (.ret (.bool r) [])
noncomputable def Cp {S:Type} (κ:Out UU→Option S):Int×Int×ByteArray×List Tm→Option S:=fun r=>κ (.ret (.agg [(iI r.1),(iI r.2.1),(.str r.2.2.1),(bD [] .nil),(sT r.2.2.2),(de [] .nil)]) [])
noncomputable def jh {S:Type} (κ:Out UU→Option S):Int×Int→Option S:=fun r=>κ (.ret (.tuple [(iI r.1),(iI r.2)]) [])
noncomputable def dZ {S:Type} (c0:Int) (κ:Out UU→Option S):Bool→Option S:=fun r=>κ (.ret (.bool r) [bI c0])
noncomputable def eZ {S:Type} (κ:Out UU→Option S):Bool×Int→Option S:=fun r=>κ (.ret (.bool r.1) [.cells [(.func 281 [] [(pt 1),(pt 0)])],bI r.2])
noncomputable def qX6 {S:Type} (κ:Out UU→Option S):Bool×Int→Option S:=fun r=>κ (.ret (.bool r.1) [bI r.2,.cells [(.func 281 [] [(pt 0),(pt 1)])]])
noncomputable def J9 {S:Type} (κ:Out UU→Option S):Cl→Option S:=fun r=>κ (.ret (aC r) [])
noncomputable def J_ {S:Type} (c0:Cl) (κ:Out UU→Option S):Bool→Option S:=fun r=>κ (.ret (.bool r) [bC c0])
noncomputable def xk {S:Type} (c0:Cl) (κ:Out UU→Option S):Int→Option S:=fun r=>κ (.ret (iI r) [bC c0])
noncomputable def acK {S:Type} (c0:List Cl) (κ:Out UU→Option S):Bool→Option S:=fun r=>κ (.ret (.bool r) [.cells [(sC c0)]])
noncomputable def au {S:Type} (κ:Out UU→Option S):List Cl×Int→Option S:=fun r=>κ (.ret (.tuple [(sC r.1),(iI r.2)]) [])
noncomputable def bG {S:Type} (κ:Out UU→Option S):Int→Option S:=fun r=>κ (.ret (iU r) [])
noncomputable def eY {S:Type} (c0 c1:Int) (c2:Bool) (κ:Out UU→Option S):Bool→Option S:=fun r=>κ (.ret (.bool r) [bI c0,bI c1,.cells [(.bool c2)]])
noncomputable def aQ {S:Type} (κ:Out UU→Option S):Tm→Option S:=fun r=>κ (.ret (aT r) [])
noncomputable def w5 {S:Type} (κ:Out UU→Option S):List Tm→Option S:=fun r=>κ (.ret (sT r) [])
noncomputable def JY {S:Type} (κ:Out UU→Option S):Int×Int×ByteArray×List Tm×List (Br Tm)→Option S:=fun r=>κ (.ret (.agg [(iI r.1),(iI r.2.1),(.str r.2.2.1),(bD [] .nil),(sT r.2.2.2.1),(sB r.2.2.2.2)]) [])
noncomputable def acL {S:Type} (κ:Out UU→Option S):Int→Option S:=fun r=>κ (.ret (.tuple []) [bI r])
noncomputable def w6 {S:Type} (κ:Out UU→Option S):Int→Option S:=fun r=>κ (.ret (pt 0) [bI r])
noncomputable def acM {S:Type} (κ:Out UU→Option S):List Cl→Option S:=fun r=>κ (.ret (A0 r) [])
noncomputable def si {S:Type} (κ:Out UU→Option S):Int×Int→Option S:=fun r=>κ (.ret (.tuple [(iU r.1),(iI r.2)]) [])
noncomputable def JZ {S:Type} (κ:Out UU→Option S):Cl×Int→Option S:=fun r=>κ (.ret (.tuple [(aC r.1),(iI r.2)]) [])
noncomputable def acN {S:Type} (c0 c1:Int) (κ:Out UU→Option S):List Cl×Int→Option S:=fun r=>κ (.ret (.tuple [(A0 r.1),(iI r.2)]) [bI c0,bI c1])
noncomputable def w7 {S:Type} (c0 c1:Int) (κ:Out UU→Option S):List Cl×Int→Option S:=fun r=>κ (.ret (.tuple [(sC r.1),(iI r.2)]) [bI c0,bI c1])
noncomputable def acO {S:Type} (κ:Out UU→Option S):Pan Int (List Cl)→Option S:=fun r=>Pan.elim r (fun r=>κ (.ret (sC r) [])) (fun e=>κ (.panic (.iface 30 (iI e)) []))
noncomputable def bW {S:Type} (κ:Out UU→Option S):Pan Int Tm→Option S:=fun r=>Pan.elim r (fun r=>κ (.ret (aT r) [])) (fun e=>κ (.panic (.iface 30 (iI e)) []))
noncomputable def acP {S:Type} (c0 c1:Int) (c2:Tm) (κ:Out UU→Option S):Pan Int Tm→Option S:=fun r=>Pan.elim r (fun r=>κ (.ret (aT r) [bI c0,bI c1,bT c2])) (fun e=>κ (.panic (.iface 30 (iI e)) [bI c0,bI c1,bT c2]))
noncomputable def w8 {S:Type} (c0 c1:Int) (c2:Tm) (κ:Out UU→Option S):Tm×Int→Option S:=fun r=>κ (.ret (.tuple [(aT r.1),(iI r.2)]) [bI c0,bI c1,bT c2])
noncomputable def dY {S:Type} (κ:Out UU→Option S):Tm×Int→Option S:=fun r=>κ (.ret (.tuple [(aT r.1),(iI r.2)]) [])
noncomputable def fC {S:Type} (κ:Out UU→Option S):Tm×Int→Option S:=fun r=>κ (.ret (aT r.1) [bI r.2])
noncomputable def acQ {S:Type} (κ:Out UU→Option S):Tm×Int×Int→Option S:=fun r=>κ (.ret (.tuple [(aT r.1),(iI r.2.1)]) [bI r.2.2])
noncomputable def J7 {S:Type} (κ:Out UU→Option S):List Cl×Int→Option S:=fun r=>κ (.ret (sC r.1) [bI r.2])
noncomputable def J8 {S:Type} (c0:Int) (c1:Tm) (c2:Int) (κ:Out UU→Option S):Pan Int Tm→Option S:=fun r=>Pan.elim r (fun r=>κ (.ret (aT r) [bI c0,bT c1,bI c2])) (fun e=>κ (.panic (.iface 30 (iI e)) [bI c0,bT c1,bI c2]))
noncomputable def kn {S:Type} (c0:Int) (c1:Tm) (c2:Int) (κ:Out UU→Option S):Tm×Int→Option S:=fun r=>κ (.ret (.tuple [(aT r.1),(iI r.2)]) [bI c0,bT c1,bI c2])
noncomputable def acR {S:Type} (c0:Int) (c1:List Cl) (κ:Out UU→Option S):Unit→Option S:=fun r=>κ (.ret (.func 259 [] [(pt 0),(pt 1),(pt 2)]) [bI c0,.cells [(sC c1)],.cells [(.func 263 [] [])]])
noncomputable def acS {S:Type} (c0:Int) (c1:List Cl) (κ:Out UU→Option S):Unit→Option S:=fun r=>κ (.ret (.func 259 [] [(pt 0),(pt 1),(pt 2)]) [bI c0,.cells [(sC c1)],.cells [(.func 264 [] [])]])
noncomputable def acT {S:Type} (κ:Out UU→Option S):Int×List Cl→Option S:=fun r=>κ (.ret (.agg [(.func 259 [] [(pt 0),(pt 1),(pt 2)]),(.func 259 [] [(pt 0),(pt 1),(pt 3)])]) [bI r.1,.cells [(sC r.2)],.cells [(.func 263 [] [])],.cells [(.func 264 [] [])]])
noncomputable def eF {S:Type} (κ:Out UU→Option S):List Cl→Option S:=fun r=>κ (.ret (sC r) [])
noncomputable def acU {S:Type} (κ:Out UU→Option S):Cl×Bool→Option S:=fun r=>κ (.ret (.tuple [(aC r.1),(.bool r.2)]) [])
noncomputable def acV {S:Type} (c0:Cl) (κ:Out UU→Option S):Cl×Bool→Option S:=fun r=>κ (.ret (.tuple [(aC r.1),(.bool r.2)]) [bC c0])
noncomputable def w9 {S:Type} (c0:Cl) (κ:Out UU→Option S):List Cl→Option S:=fun r=>κ (.ret (sC r) [bC c0])
noncomputable def acW {S:Type} (c0:Int) (c1:List Cl) (κ:Out UU→Option S):List Cl×Int→Option S:=fun r=>κ (.ret (.tuple [(sC r.1),(iI r.2)]) [bI c0,.cells [(sC c1)],.cells [(.func 264 [] [])]])
noncomputable def sk {S:Type} (c0:Int) (c1:List Cl) (κ:Out UU→Option S):List Cl×Int→Option S:=fun r=>κ (.ret (.tuple [(sC r.1),(iI r.2)]) [bI c0,.cells [(sC c1)]])
noncomputable def acX {S:Type} (c0:Int) (c1:List Cl) (κ:Out UU→Option S):List Cl×Int→Option S:=fun r=>κ (.ret (.tuple [(sC r.1),(iI r.2)]) [bI c0,.cells [(sC c1)],.cells [(.func 263 [] [])]])
noncomputable def acY {S:Type} (c0:Int) (c1:List Cl) (κ:Out UU→Option S):List Cl×Int→Option S:=fun r=>κ (.ret (.tuple [(sC r.1),(iI r.2)]) [bI c0,.cells [(sC c1)],.cells [(.func 263 [] [])],.cells [(.func 264 [] [])]])
noncomputable def acZ {S:Type} (c0:Tm) (κ:Out UU→Option S):Int→Option S:=fun r=>κ (.ret (iI r) [bT c0])
noncomputable def ac0 {S:Type} (c0:Int) (κ:Out UU→Option S):Int→Option S:=fun r=>κ (.ret (iI r) [bI c0])
noncomputable def w_ {S:Type} (c0:Int) (c1:List Cl) (κ:Out UU→Option S):Tm×Int→Option S:=fun r=>κ (.ret (.tuple [(aT r.1),(iI r.2)]) [bI c0,.cells [(sC c1)],.cells [(.func 263 [] [])],.cells [(.func 264 [] [])]])
noncomputable def xa {S:Type} (c0:Int) (c1:List Cl) (c4:Int) (κ:Out UU→Option S):List Tm×Int→Option S:=fun r=>κ (.ret (.tuple [(sT r.1),(iI r.2)]) [bI c0,.cells [(sC c1)],.cells [(.func 263 [] [])],.cells [(.func 264 [] [])],bI c4])
noncomputable def xb {S:Type} (c0:Int) (c1:List Cl) (c4:Tm) (κ:Out UU→Option S):List Tm×Int→Option S:=fun r=>κ (.ret (.tuple [(sT r.1),(iI r.2)]) [bI c0,.cells [(sC c1)],.cells [(.func 263 [] [])],.cells [(.func 264 [] [])],bT c4])
noncomputable def ac1 {S:Type} (κ:Out UU→Option S):Int→Option S:=fun r=>κ (.ret (.agg [(.func 269 [] [(pt 0)]),(.func 269 [] [(pt 0)])]) [bI r])
noncomputable def sn {S:Type} (c0:Int) (κ:Out UU→Option S):List Cl×Int→Option S:=fun r=>κ (.ret (.tuple [(sC r.1),(iI r.2)]) [bI c0])
noncomputable def xd {S:Type} (c0:Int) (κ:Out UU→Option S):Tm×Int→Option S:=fun r=>κ (.ret (.tuple [(aT r.1),(iI r.2)]) [bI c0])
noncomputable def xe {S:Type} (c0 c1:Int) (κ:Out UU→Option S):List Tm×Int→Option S:=fun r=>κ (.ret (.tuple [(sT r.1),(iI r.2)]) [bI c0,bI c1])
noncomputable def xg {S:Type} (c0:Int) (c1:Tm) (κ:Out UU→Option S):List Tm×Int→Option S:=fun r=>κ (.ret (.tuple [(sT r.1),(iI r.2)]) [bI c0,bT c1])
noncomputable def ci {S:Type} (κ:Out UU→Option S):Bool×Int→Option S:=fun r=>κ (.ret (.bool r.1) [bI r.2])
noncomputable def xh {S:Type} (c0:Tm) (c1:Int) (κ:Out UU→Option S):Int×Int×ByteArray×List Tm×Int→Option S:=fun r=>κ (.ret (.agg [(iI r.1),(iI r.2.1),(.str r.2.2.1),(bD [] .nil),(sT r.2.2.2.1),(de [] .nil)]) [bT c0,bI c1,.cells [(pt 3)],bI r.2.2.2.2])
noncomputable def ac2 {S:Type} (κ:Out UU→Option S):(Br Tm)→Option S:=fun r=>κ (.ret (aB r) [])
noncomputable def ac3 {S:Type} (κ:Out UU→Option S):Tm×Bool×Int×Int→Option S:=fun r=>κ (.ret (.tuple [(aT r.1),(.bool r.2.1),(iI r.2.2.1)]) [bI r.2.2.2])
noncomputable def eG {S:Type} (κ:Out UU→Option S):Tm×Bool×Int→Option S:=fun r=>κ (.ret (.tuple [(aT r.1),(.bool r.2.1),(iI r.2.2)]) [])
noncomputable def ac5 {S:Type} (κ:Out UU→Option S):Int×Int×ByteArray×List Cl×List Tm→Option S:=fun r=>κ (.ret (.agg [(iI r.1),(iI r.2.1),(.str r.2.2.1),(sC r.2.2.2.1),(sT r.2.2.2.2),(de [] .nil)]) [])
noncomputable def xj {S:Type} (κ:Out UU→Option S):List Int→Option S:=fun r=>κ (.ret (Yr r) [])
noncomputable def ac6 {S:Type} (κ:Out UU→Option S):Int×Int×ByteArray→Option S:=fun r=>κ (.ret (.agg [(iI r.1),(iI r.2.1),(.str r.2.2),(bD [] .nil),(df [] .nil),(de [] .nil)]) [])
end
end Go.Proofs.YtehekgbehghgdaaGreatDoor
