/- Part 3 of a proof: the sources, with their names and remarks, lie in wip/. -/
import Derived.Test.YtgajalidbabccaaGreatDoorX2
import Derived.Test.YtgajalidbabccaaGreatDoorRows
import Derived.ProofKit
import Derived.OpenShut
import Derived.ChangeArms
import Derived.Deep.Slices
import Derived.Shelf.SlSortCmp.NoneTotal
import Derived.Ground.SlsfProg
import Derived.Test.YtgajalidbabccaaGreatDoorProg
import Derived.Shelf.Spec.TrailingZeros
import Derived.RangeFuncBound
import Derived.RangeFuncLeaves
import Derived.RangeFuncOwn
import Derived.OwnWalkIn
import Derived.TacticsInMore
import Derived.LoopNIn
import Derived.LoopIn
import Derived.Maps.RangeWalk
import Derived.Maps.AppendAt
import Derived.Test.YtgajalidbabccaaGreatDoorCards
import Derived.Test.YtgajalidbabccaaGreatDoorTie
import Derived.WalkKit
import Derived.ReadAgain
import Derived.Deep.DeepHandedRow
import Derived.Lib.LaidTab
import Derived.KernelRfl
open Array renaming getD_eq_getD_getElem?→iJ,getElem?_eq_some_iff→ij
open Bool renaming and_eq_true→aZ,not_false→ca,not_true→bY,true_and→gR
open ByteArray renaming empty→au
open Eq renaming trans→ak
open Go.IntKind renaming wrap→af
open Int renaming toNat_natCast→gb
open List renaming all_eq_true→dA,append_nil→dZ,getElem?_eq_getElem→d4,getElem?_eq_some_iff→gy,length_cons→cM,length_eq_zero_iff→kj,mem_append→eL,mem_cons→gc,mem_map→dS,nil_append→dG,range→dB
open Nat renaming beq→aU,ble→cX,eq_of_testBit_eq→g6,le_refl→dC,le_trans→er,pow_le_pow_right→jH,zero_add→g7
open Option renaming bind→ag,bind_some→aJ
set_option linter.unusedVariables false
set_option linter.unusedSimpArgs false
namespace Go.Proofs.YtgajalidbabccaaGreatDoor
open Go PI
abbrev M24:Nat:=16777215
theorem Ul {n:Nat} (h:n<24):2^n<4294967296:=Nat.lt_of_lt_of_le (Nat.pow_lt_pow_right (by decide) h) (by decide)
theorem IY (n:Nat):(2:Int)^n=((2^n:Nat):Int):=by simp
theorem J7 (m n:Nat):Int.fdiv (m:Int) ((2:Int)^n)=((m/2^n:Nat):Int):=by
 grind
variable {S:Type} {k:Nat}
theorem G3 (hk:Fu k) (i:Int) (Y:Bool->OS S):rl k i Y=Y (decide (0<=i/\i<24)):=by
 grind [rl,bR]
theorem asI (hk:Fu k) {m:Nat} (hm:m<4294967296) (Y:Bool->OS S):t7 k (m:Int) Y=Y (decide (m<16777216)):=by
 simp only [t7]
 rw [show (16777215:Int)=((16777215:Nat):Int) from rfl,IE hm (by decide)]
 congr 1
 rw [Bool.eq_iff_iff]
 simp only [beq_iff_eq,decide_eq_true_eq]
 have key:gr m 16777215=0↔m<16777216:=by
  constructor
  ·intro h
   apply Nat.lt_pow_two_of_testBit (n:=24)
   intro i hi
   have h2:=qb m 16777215 i
   rw [h,Nat.zero_testBit] at h2
   have:(16777215:Nat).testBit i=false:=Nat.testBit_lt_two_pow (Nat.lt_of_lt_of_le (by decide:16777215<2^24) (jH (by decide) hi))
   grind
  ·intro h
   apply g6
   intro i
   rw [qb,Nat.zero_testBit]
   by_cases hi:i<24
   ·have:(16777215:Nat).testBit i=true:=by
     rw [show (16777215:Nat)=2^24-1 from rfl,Nat.testBit_two_pow_sub_one];grind
    grind
   ·have h2:(2:Nat)^24<=2^i:=jH (by decide) (by omega)
    grind [Nat.testBit_lt_two_pow]
 omega
theorem asG (hk:Fu k) {m:Nat} (hm:m<4294967296) (i:Int) (Y:Bool->OS S):lq k (m:Int) i Y=Y (decide (0<=i/\i<24)&&m.testBit i.toNat):=by
 simp only [lq,G3 hk,al hk]
 by_cases h:0<=i/\i<24
 ·obtain ⟨n,rfl⟩: ∃n:Nat,i=n:=⟨i.toNat,by omega⟩
  have hn:n<24:=by omega
  rw [decide_eq_true h,aj,gR,md n (by omega),mg _ (by omega)]
  congr 1
  rw [gb,Nat.min_eq_left (by omega),J7,show (1:Int)=((1:Nat):Int) from rfl,oV (Nat.lt_of_le_of_lt (Nat.div_le_self _ _) hm) (by decide)]
  grind
 grind [ah]
theorem asJ (hk:Fu k) {m:Nat} (hm:m<4294967296) (i:Int) (Y:Int->OS S):mn k (m:Int) i Y=Y (if 0<=i/\i<24 then (((m&&&M24)|||2^i.toNat:Nat):Int) else ((m&&&M24:Nat):Int)):=by
 simp only [mn,G3 hk,al hk]
 have hand:bZ .and .u32 (m:Int) 16777215=((m&&&M24:Nat):Int):=oV hm (by decide:(16777215:Nat)<4294967296)
 have hlt:m&&&M24<4294967296:=w9 (n:=32) hm
 rw [hand]
 by_cases h:0<=i/\i<24
 ·obtain ⟨n,rfl⟩: ∃n:Nat,i=n:=⟨i.toNat,by omega⟩
  grind [md,ah,mg,gb,oQ,Ul,BD]
 ·rw [decide_eq_false h,if_neg h];rfl
theorem asK (hk:Fu k) {m:Nat} (hm:m<4294967296) (i:Int) (Y:Int->OS S):nB k (m:Int) i Y=Y (if 0<=i/\i<24 then ((gr (m&&&M24) (2^i.toNat):Nat):Int) else ((m&&&M24:Nat):Int)):=by
 simp only [nB,G3 hk,al hk]
 have hand:bZ .and .u32 (m:Int) 16777215=((m&&&M24:Nat):Int):=oV hm (by decide:(16777215:Nat)<4294967296)
 have hlt:m&&&M24<4294967296:=w9 (n:=32) hm
 rw [hand]
 by_cases h:0<=i/\i<24
 ·grind [md,ah,mg,gb,oQ,Ul,IE]
 ·rw [decide_eq_false h,if_neg h];rfl
theorem YU (hk:Fu k) (n:Nat) (hn:n<18446744073709551616) (Y:Int->OS S):t8 k (n:Int) Y=Y ((2^min n 24-1:Nat):Int):=by
 simp only [t8]
 have e:(if (24:Int)<(n:Int) then (24:Int) else (n:Int))=((min n 24:Nat):Int):=by
  omega
 rw [e,md _ (by omega),mg _ (by omega),gb]
 congr 1
 generalize hq:min n 24=q
 have hq24:q<=24:=by omega
 rw [Nat.min_eq_left (by omega),Int.one_mul,IY]
 have h1:2^q<=2^24:=jH (by decide) hq24
 grind [md,oQ]
def kM (m n:Nat):Nat:=(m&&&M24)&&&(2^min n 24-1)
def fi (m n:Nat):Nat:=gr (m&&&M24) (2^min n 24-1)
def it (m n b:Nat):Nat×Nat:=
 if fi m n=0 then (kM m n,0) else if 24<=b then (0,10) else if fi m n*2^b>16777215 then (0,10) else (kM m n|||(fi m n*2^b),0)
theorem asH (hk:Fu k) {m:Nat} (hm:m<4294967296) (n b:Nat) (hn:n<9223372036854775808) (hb:b<9223372036854775808) (Y:Int×Int->OS S):
  pe k (m:Int) (n:Int) (b:Int) Y=Y (((it m n b).1:Int),((it m n b).2:Int)):=by
 have hand:bZ .and .u32 (m:Int) 16777215=((m&&&M24:Nat):Int):=oV hm (by decide:(16777215:Nat)<4294967296)
 have hlt:m&&&M24<16777216:=Nat.lt_of_le_of_lt Nat.and_le_right (by decide)
 have hbl:2^min n 24-1<4294967296:=by
  have:2^min n 24<=2^24:=jH (by decide) (by omega)
  omega
 have hhi:fi m n<16777216:=Aw (n:=24) hlt
 have hlow:bZ .and .u32 ((m&&&M24:Nat):Int) ((2^min n 24-1:Nat):Int)=((kM m n:Nat):Int):=oV (by omega) hbl
 have hhigh:bZ .andNot .u32 ((m&&&M24:Nat):Int) ((2^min n 24-1:Nat):Int)=((fi m n:Nat):Int):=IE (by omega) hbl
 simp only [pe]
 rw [bR,bR,if_neg (by omega),if_neg (by omega)]
 simp only [YU hk n (by omega),al hk,hand,hlow,hhigh]
 rw [md _ (by omega)]
 unfold it
 by_cases h0:fi m n=0
 ·grind [aj]
 ·rw [if_neg h0]
  have hb0:(((fi m n:Nat):Int)==0)=false:=by
   grind
  simp only [hb0,ah,bR]
  by_cases h24:24<=b
  ·grind
  ·rw [if_neg (by omega),if_neg h24,md b (by omega),mg _ (by omega),gb,Nat.min_eq_left (by omega),IY]
   have hp:2^b<=2^23:=jH (by decide) (by omega)
   have h23:(2:Nat)^23=8388608:=by decide
   have hmul:fi m n*2^b<18446744073709551616:=by
    have:=Nat.mul_le_mul (Nat.le_of_lt hhi) hp
    omega
   have ec:((fi m n:Nat):Int)*((2^b:Nat):Int)=((fi m n*2^b:Nat):Int):=by simp
   rw [ec,md _ hmul]
   by_cases hg:fi m n*2^b>16777215
   ·grind
   ·rw [if_neg (by omega),if_neg hg]
    rw [oQ _ (by omega),mg _ (by omega),BD (by grind [kM,Nat.and_le_left]) (by omega)]
    rfl
set_option maxRecDepth 20000
variable {S:Type} {k:Nat}
def dR (l:List Nat):Nat:=(l.map (2^ ·)).sum
theorem afu {x a:Nat} (h:x.testBit a=false):x+2^a=x|||2^a:=by
 have h1:x=2^(a+1)*(x/2^(a+1))+x%2^(a+1):=(Nat.div_add_mod _ _).symm
 have hlt:x%2^(a+1)<2^a:=by
  have hb:(x%2^(a+1)).testBit a=false:=by grind
  grind [Nat.lt_pow_two_of_testBit,Nat.testBit_lt_two_pow]
 generalize x/2^(a+1)=q at h1
 generalize x%2^(a+1)=r at h1 hlt
 have hp:(2:Nat)^(a+1)=2^a*2:=Nat.pow_succ 2 a
 have e1:2^a+r=2^a|||r:=by
  have:=Nat.two_pow_add_eq_or_of_lt hlt 1
  grind
 have e2:x=2^(a+1)*q|||r:=by grind [Nat.two_pow_add_eq_or_of_lt]
 grind [Nat.two_pow_add_eq_or_of_lt]
theorem th: ∀ (l:List Nat),l.Nodup-> ∀j,(dR l).testBit j=decide (j∈l):=by
 intro l
 induction l with
 |nil=>grind [dR]
 |cons a l ih=>
  intro hn j
  have hn':=List.nodup_cons.1 hn
  have ha:(dR l).testBit a=false:=by grind
  have e:dR (a::l)=dR l|||2^a:=by
   grind [afu,dR]
  grind
theorem aso: ∀ (l:List Nat),(∀x∈l,x<24)->dR l<=l.length*8388608:=by
 intro l
 induction l with
 |nil=>intro _;simp [dR]
 |cons a l ih=>
  intro h
  have h1:=ih fun x hx=>h x (by simp [hx])
  have h2:2^a<=2^23:=jH (by decide) (by have:=h a (by simp);omega)
  grind [dR]
def c7 (m:Nat):List Nat:=(dB 24).filter m.testBit
theorem tH (m:Nat):(c7 m).Nodup:=List.nodup_range.filter _
theorem mem_bitsN {m j:Nat}:j∈c7 m↔j<24/\m.testBit j=true:=by simp [c7]
theorem kl (m:Nat):(c7 m).length<=24:=by
 grind [c7]
theorem lg (j:Nat):M24.testBit j=decide (j<24):=by
 rw [show M24=2^24-1 from rfl,Nat.testBit_two_pow_sub_one]
theorem Nc (m:Nat):dR (c7 m)=m&&&M24:=by
 apply g6
 grind [th,tH,lg,mem_bitsN]
theorem amD (Y:Int->OS S) (n:Nat) (hn:n<=30): ∀ (d i m:Nat),i+d=n->d<m->vc k Y (n:Int) m ((2^i:Nat):Int) (i:Int)=Y ((2^n:Nat):Int):=by
 intro d
 induction d with
 |zero=>
  intro i m h hm
  obtain ⟨m,rfl⟩: ∃q,m=q+1:=⟨m-1,by omega⟩
  grind [vc,Ci,bR]
 |succ d ih=>
  intro i m h hm
  obtain ⟨m,rfl⟩: ∃q,m=q+1:=⟨m-1,by omega⟩
  simp only [vc,Ci,bR]
  have hp:2^i<=2^30:=jH (by decide) (by omega)
  have h30:(2:Nat)^30=1073741824:=by decide
  have hc:(0:Int)<=((2^i:Nat):Int):=Int.natCast_nonneg _
  rw [if_pos (by omega),fW (by omega) (by omega),fW (by omega) (by omega)]
  have e1:((2^i:Nat):Int)*2=((2^(i+1):Nat):Int):=by rfl
  grind
theorem Ni (hk:Fu k) (n:Nat) (hn:n<=30) (Y:Int->OS S):ub k (n:Int) Y=Y ((2^n:Nat):Int):=by
 simp only [ub,NV]
 have:=amD (k:=k) Y n hn n 0 k (by omega) (by omega)
 omega
theorem asN (hk:Fu k) {m:Nat} (hm:m<4294967296) (Y:Bool->OS S):ua k (m:Int) Y=Y (decide (m<16777216)):=by
 simp only [ua,al hk]
 rw [show (24:Int)=((24:Nat):Int) from rfl,Ni hk 24 (by omega),fW (by omega) (by omega)]
 grind [decide]
theorem YV (hk:Fu k) {m:Nat} (hm:m<4294967296) (i:Int) (Y:Bool->OS S):gF k (m:Int) i Y=Y (decide (0<=i/\i<24)&&m.testBit i.toNat):=by
 simp only [gF,bR,al hk]
 by_cases h0:i>=0
 ·rw [if_pos h0]
  by_cases h1:i<24
  ·rw [if_pos h1]
   obtain ⟨n,rfl⟩: ∃n:Nat,i=n:=⟨i.toNat,by omega⟩
   have hp:0<2^n:=Nat.two_pow_pos n
   rw [Ni hk n (by omega),mg _ (by omega)]
   rw [fW (n:=(m:Int)) (by omega) (by omega)]
   have e1:Int.tdiv (m:Int) ((2^n:Nat):Int)=((m/2^n:Nat):Int):=(Int.ofNat_tdiv m (2^n)).symm
   rw [e1]
   have hd:m/2^n<=m:=Nat.div_le_self _ _
   have hc:(0:Int)<=((m/2^n:Nat):Int):=Int.natCast_nonneg _
   rw [fW (by omega) (by omega)]
   have e2:Int.tmod ((m/2^n:Nat):Int) 2=((m/2^n%2:Nat):Int):=(Int.ofNat_tmod (m/2^n) 2).symm
   rw [e2,decide_eq_true (by omega),gR,gb]
   congr 1
   grind
  grind
 grind
def ints (l:List Nat):List Int:=l.map Int.ofNat
theorem Kq (l:List Nat) (i:Nat):(ints l)[i]? =(l[i]?).map Int.ofNat:=by simp [ints]
theorem iq (l:List Nat):(ints l).length=l.length:=by simp [ints]
theorem alE (hk:Fu k) (Y:Int->OS S) (l:List Nat) (hl:l.length<=64) (h24: ∀x∈l,x<24): ∀ (d i m:Nat),i+d=l.length->d<m->u_ k Y (ints l) m ((dR (l.take i):Nat):Int) (i:Int)=Y ((dR l:Nat):Int):=by
 have hbound: ∀i,dR (l.take i)<=64*8388608:=by
  grind [aso]
 intro d
 induction d with
 |zero=>
  intro i m h hm
  obtain ⟨m,rfl⟩: ∃q,m=q+1:=⟨m-1,by omega⟩
  grind [u_,Cg,bR,iq,oQ]
 |succ d ih=>
  intro i m h hm
  obtain ⟨m,rfl⟩: ∃q,m=q+1:=⟨m-1,by omega⟩
  simp only [u_,Cg,bR,iq,al hk]
  have hi:i<l.length:=by omega
  rw [if_pos (by omega),zA,Kq,d4 hi]
  simp only [Option.map_some,aJ]
  have hx:=h24 _ (List.getElem_mem hi)
  have hb:=hbound i
  rw [show Int.ofNat l[i]=((l[i]:Nat):Int) from rfl,Ni hk _ (by omega)]
  have hp:2^l[i]<=2^24:=jH (by decide) (by omega)
  have h24:(2:Nat)^24=16777216:=by decide
  have hc:(0:Int)<=((2^l[i]:Nat):Int):=Int.natCast_nonneg _
  rw [fW (by omega) (by omega),fW (by omega) (by omega)]
  have e1:((dR (l.take i):Nat):Int)+((2^l[i]:Nat):Int)=((dR (l.take (i+1)):Nat):Int):=by
   grind [List.take_add_one,dR]
  grind
theorem wM (hk:Fu k) (l:List Nat) (hl:l.length<=64) (h24: ∀x∈l,x<24) (Y:Int->OS S):mq k (ints l) Y=Y ((dR l:Nat):Int):=by
 simp only [mq,NT]
 have:=alE hk Y l hl h24 l.length 0 k (by omega) (by omega)
 grind [dR]
theorem alC (hk:Fu k) (Y:List Int->OS S) {q:Nat} (hq:q<4294967296): ∀ (d i m:Nat),i+d=24->d<m->zL k Y (q:Int) m (ints ((dB i).filter q.testBit)) (i:Int)=Y (ints (c7 q)):=by
 intro d
 induction d with
 |zero=>
  intro i m h hm
  obtain ⟨m,rfl⟩: ∃q,m=q+1:=⟨m-1,by omega⟩
  have:i=24:=by omega
  subst this
  rfl
 |succ d ih=>
  intro i m h hm
  obtain ⟨m,rfl⟩: ∃q,m=q+1:=⟨m-1,by omega⟩
  simp only [zL,IG,bR,al hk]
  rw [if_pos (by omega),YV hk hq,decide_eq_true (by omega),gR,gb,fW (by omega) (by omega)]
  have e2:(i:Int)+1=((i+1:Nat):Int):=by simp
  have hlen:(ints ((dB i).filter q.testBit)).length<=24:=by
   grind [iq]
  rw [e2]
  cases hb:q.testBit i with
  |true=>
   rw [aj,bn (by grind)]
   have:ints ((dB i).filter q.testBit)++[(i:Int)]=ints ((dB (i+1)).filter q.testBit):=by
    grind [List.range_succ,ints]
   grind
  |false=>
   rw [ah]
   have:ints ((dB i).filter q.testBit)=ints ((dB (i+1)).filter q.testBit):=by
    grind [List.range_succ]
   grind
theorem wL (hk:Fu k) {q:Nat} (hq:q<4294967296) (Y:List Int->OS S):mo k (q:Int) Y=Y (ints (c7 q)):=by
 simp only [mo,NS]
 have:=alC hk Y hq 24 0 k (by omega) (by omega)
 grind [ints]
theorem alF (hk:Fu k) (Y:Int->OS S) (n:Int) (l:List Nat) (hl:l.length<=64) (h24: ∀x∈l,x<24): ∀ (d i m:Nat),i+d=l.length->d<m->
  va k Y n (ints l) m (ints ((l.take i).filter fun x:Nat=> !((x:Int)==n))) (i:Int)=Y ((dR (l.filter fun x:Nat=> !((x:Int)==n)):Nat):Int):=by
 intro d
 induction d with
 |zero=>
  intro i m h hm
  obtain ⟨m,rfl⟩: ∃q,m=q+1:=⟨m-1,by omega⟩
  grind [va,Ch,bR,iq,al,wM]
 |succ d ih=>
  intro i m h hm
  obtain ⟨m,rfl⟩: ∃q,m=q+1:=⟨m-1,by omega⟩
  simp only [va,Ch,bR,iq,al hk]
  have hi:i<l.length:=by omega
  rw [if_pos (by omega),zA,Kq,d4 hi]
  simp only [Option.map_some,aJ]
  rw [fW (n:=(i:Int)+1) (by omega) (by omega)]
  have e2:(i:Int)+1=((i+1:Nat):Int):=by simp
  rw [e2,show Int.ofNat l[i]=((l[i]:Nat):Int) from rfl]
  have et:(l.take (i+1)).filter (fun x:Nat=> !((x:Int)==n))=(l.take i).filter (fun x:Nat=> !((x:Int)==n))++(if !((l[i]:Int)==n) then [l[i]] else []):=by
   grind [List.take_add_one]
  grind [aj,bn,ints,ah]
theorem Bh (hk:Fu k) {q:Nat} (hq:q<4294967296) (i:Int) (Y:Int->OS S):kw k (q:Int) i Y=Y (if 0<=i/\i<24 then ((gr (q&&&M24) (2^i.toNat):Nat):Int) else ((q&&&M24:Nat):Int)):=by
 simp only [kw,NU,al hk,wL hk hq]
 have:=alF hk Y i (c7 q) (by have:=kl q;omega) (fun x hx=>(mem_bitsN.1 hx).1) (c7 q).length 0 k (by omega) (by have:=kl q;omega)
 simp only [List.take_zero,List.filter_nil] at this
 have h0:(ints []:List Int)=[]:=rfl
 rw [h0] at this
 refine ak this ?_
 congr 1
 have hnd:((c7 q).filter fun x:Nat=> !((x:Int)==i)).Nodup:=(tH q).filter _
 by_cases h:0<=i/\i<24
 ·rw [if_pos h]
  congr 1
  apply g6
  grind [th,qb,lg,mem_bitsN]
 grind [Nc,List.filter_eq_self,mem_bitsN]
theorem asO (hk:Fu k) {q:Nat} (hq:q<4294967296) (i:Int) (Y:Int->OS S):yG k (q:Int) i Y=Y (if 0<=i/\i<24 then (((q&&&M24)|||2^i.toNat:Nat):Int) else ((q&&&M24:Nat):Int)):=by
 simp only [yG,bR,al hk]
 have hq24:q&&&M24<4294967296:=w9 (n:=32) hq
 by_cases h0:i<0
 ·grind [Bh]
 ·rw [if_neg h0]
  by_cases h1:i>=24
  ·grind [Bh]
  ·rw [if_neg h1,Bh hk hq,if_pos (by omega),if_pos (by omega)]
   obtain ⟨n,rfl⟩: ∃n:Nat,i=n:=⟨i.toNat,by omega⟩
   have hw:gr (q&&&M24) (2^n)<4294967296:=Aw (n:=32) hq24
   rw [gb,wL hk hw,bn (by grind [iq,kl])]
   have e:ints (c7 (gr (q&&&M24) (2^n)))++[(n:Int)]=ints (c7 (gr (q&&&M24) (2^n))++[n]):=by simp [ints]
   rw [e,wM hk _ (by grind [kl]) (fun x hx=>by
    grind [mem_bitsN])]
   congr 2
   apply g6
   intro j
   rw [th]
   all_goals grind [lg,mem_bitsN,qb,tH]
theorem zz {α:Type} (p r:List α) (x:α):ai (p++x::r) (p.length:Int)=some x:=by simp [ai]
theorem asp {α:Type} (p r:List α) (x y:α):(p++x::r).set p.length y=(p++[y])++r:=by simp
theorem oX {m:Nat} (h:m<16777216) {j:Nat} (hj:m.testBit j=true):j<24:=by
 apply Classical.byContradiction
 intro hn
 have:m<2^j:=Nat.lt_of_lt_of_le h (jH (n:=2) (i:=24) (j:=j) (by decide) (by omega))
 grind [Nat.testBit_lt_two_pow]
theorem RT (m:Nat):m<16777216↔ ∀j,m.testBit j=true->j<24:=by
 constructor
 ·intro h j hj;exact oX h hj
 ·intro h
  apply Nat.lt_pow_two_of_testBit (n:=24)
  grind
def gQ (n b x:Nat):Nat:=if x<n then x else x+b
theorem alB (hk:Fu k) (Y:Int×Int->OS S) (n b:Nat) (hn:n<9223372036854775808) (hb:b<9223372036854775808):
  ∀ (r p:List Nat) (m:Nat),(p++r).length<=24->(∀x∈r,x<24)->r.length<m->(∀x∈p,x<24)->
  rX k Y (n:Int) (b:Int) m (ints (p++r)) (p.length:Int)=
   if (∃x∈r,n<=x/\24<=x+b) then Y (0,10) else Y (((dR (p++r.map (gQ n b)):Nat):Int),0):=by
 intro r
 induction r with
 |nil=>
  intro p m hl h24 hm hp
  obtain ⟨m,rfl,hm⟩:=aq hm
  grind [rX,Cf,bR,iq,al,wM]
 |cons x r ih=>
  intro p m hl h24 hm hp
  obtain ⟨m,rfl,hm⟩:=aq hm
  have hx:=h24 x (by simp)
  have hl':p.length+(r.length+1)<=24:=by grind
  have e0:ints (p++x::r)=ints p++(x:Int)::ints r:=by simp [ints]
  have el:(p.length:Int)=((ints p).length:Int):=by rw [iq]
  simp only [rX,Cf,bR,al hk]
  rw [if_pos (by grind),e0,el,zz]
  simp only [aJ]
  have ew:af .i64 (((ints p).length:Int)+1)=(((p++[x]).length:Nat):Int):=by
   grind [fW]
  have key: ∀y:Nat,y<24->rX k Y (n:Int) (b:Int) m (ints p++(y:Int)::ints r) (((p++[x]).length:Nat):Int)=if (∃x∈r,n<=x/\24<=x+b) then Y (0,10) else Y (((dR ((p++[y])++r.map (gQ n b)):Nat):Int),0):=by
   intro y hy
   have:=ih (p++[y]) m (by grind) (fun z hz=>h24 z (by simp [hz])) (by grind) (by
    grind)
   grind [ints]
  rw [ew]
  by_cases hxn:x<n
  ·rw [if_pos (by omega),key x hx]
   have e1:gQ n b x=x:=by grind [gQ]
   have e2:(∃z∈x::r,n<=z/\24<=z+b)↔(∃z∈r,n<=z/\24<=z+b):=by
    grind
   simp only [e2,List.map_cons,e1,List.append_assoc,List.singleton_append]
  ·rw [if_neg (by omega),fW (n:=24-(x:Int)) (by omega) (by omega)]
   by_cases hby:24<=x+b
   ·rw [if_pos (by omega),if_pos ⟨x,by simp,by omega,hby⟩]
   ·rw [if_neg (by omega),fW (n:=(x:Int)+(b:Int)) (by omega) (by omega),gb]
    have e3:(x:Int)+(b:Int)=((x+b:Nat):Int):=by simp
    rw [e3,asp,List.append_assoc,List.singleton_append,key (x+b) (by omega)]
    have e1:gQ n b x=x+b:=by grind [gQ]
    have e2:(∃z∈x::r,n<=z/\24<=z+b)↔(∃z∈r,n<=z/\24<=z+b):=by
     grind
    simp only [e2,List.map_cons,e1,List.append_assoc,List.singleton_append]
theorem IR (m n j:Nat):(kM m n).testBit j=(m.testBit j&&decide (j<n/\j<24)):=by
 grind [kM,lg]
theorem Pm (m n j:Nat):(fi m n).testBit j=(m.testBit j&&decide (n<=j/\j<24)):=by
 grind [fi,qb,lg]
theorem KT (m n b:Nat):it m n b=if (∃x∈c7 m,n<=x/\24<=x+b) then (0,10) else (dR ((c7 m).map (gQ n b)),0):=by
 have hnd:((c7 m).map (gQ n b)).Nodup:=by
  grind [gQ,tH]
 have hset: ∀j,(dR ((c7 m).map (gQ n b))).testBit j=((kM m n).testBit j||(decide (b<=j)&&(fi m n).testBit (j-b))):=by
  intro j
  rw [th _ hnd,IR,Pm,Bool.eq_iff_iff]
  simp only [decide_eq_true_eq,dS,mem_bitsN,Bool.or_eq_true,aZ]
  grind [gQ]
 have hhigh: ∀j,(fi m n).testBit j=true↔(j∈c7 m/\n<=j):=by
  grind [Pm,mem_bitsN]
 unfold it
 by_cases h0:fi m n=0
 ·rw [if_pos h0,if_neg]
  ·congr 1
   apply g6
   grind
  grind
 ·rw [if_neg h0]
  have hex: ∃j,(fi m n).testBit j=true:=by
   apply Classical.byContradiction
   intro hne
   apply h0
   apply g6
   grind
  have hmul: ∀j,(fi m n*2^b).testBit j=(decide (b<=j)&&(fi m n).testBit (j-b)):=by
   grind
  by_cases h24:24<=b
  ·rw [if_pos h24]
   obtain ⟨j,hj⟩:=hex
   have:=(hhigh j).1 hj
   rw [if_pos ⟨j,this.1,this.2,by omega⟩]
  ·rw [if_neg h24]
   have hlt:=RT (fi m n*2^b)
   by_cases hg:fi m n*2^b>16777215
   ·rw [if_pos hg,if_pos]
    grind
   ·rw [if_neg hg,if_neg]
    ·congr 1
     apply g6
     grind
    ·rintro ⟨x,h1,h2,h3⟩
     have hx:(fi m n*2^b).testBit (x+b)=true:=by
      simp_all
     grind
theorem asM (hk:Fu k) {m:Nat} (hm:m<4294967296) (n b:Nat) (hn:n<9223372036854775808) (hb:b<9223372036854775808) (Y:Int×Int->OS S):
  pf k (m:Int) (n:Int) (b:Int) Y=Y (((it m n b).1:Int),((it m n b).2:Int)):=by
 simp only [pf,Bn,bR,al hk]
 rw [if_neg (by omega),if_neg (by omega),wL hk hm]
 have:=alB hk Y n b hn hb (c7 m) [] k (by grind [kl]) (fun x hx=>(mem_bitsN.1 hx).1) (by grind [kl]) (by simp)
 simp only [dG] at this
 refine ak this ?_
 rw [KT]
 split<;>rfl
def nJ (m:Nat) (i:Int):Nat:=if 0<=i/\i<24 then kM m i.toNat|||((m&&&M24)/2^(i.toNat+1)*2^i.toNat) else m&&&M24
theorem asF (hk:Fu k) {m:Nat} (hm:m<4294967296) (i:Int) (Y:Int->OS S):t6 k (m:Int) i Y=Y ((nJ m i:Nat):Int):=by
 simp only [t6,G3 hk,al hk]
 have hand:bZ .and .u32 (m:Int) 16777215=((m&&&M24:Nat):Int):=oV hm (by decide:(16777215:Nat)<4294967296)
 have hlt:m&&&M24<16777216:=Nat.lt_of_le_of_lt Nat.and_le_right (by decide)
 rw [hand]
 unfold nJ
 by_cases h:0<=i/\i<24
 ·obtain ⟨n,rfl⟩: ∃n:Nat,i=n:=⟨i.toNat,by omega⟩
  have hn:n<24:=by omega
  rw [decide_eq_true h,if_pos h,bY,ah,YU hk n (by omega)]
  have e1:(n:Int)+1=((n+1:Nat):Int):=by simp
  rw [fW (by omega) (by omega),e1,md _ (by omega),md _ (by omega),mg _ (by omega),mg _ (by omega)]
  rw [gb,gb,Nat.min_eq_left (show n+1<=32 by omega),Nat.min_eq_left (show n<=32 by omega),J7,IY]
  have hb:2^min n 24-1<4294967296:=by
   have:2^min n 24<=2^24:=jH (by decide) (by omega)
   omega
  have hq:(m&&&M24)/2^(n+1)*2^n<=m&&&M24:=by
   have h1:(m&&&M24)/2^(n+1)*2^(n+1)<=m&&&M24:=Nat.div_mul_le_self _ _
   have h2:2^n<=2^(n+1):=jH (by decide) (by omega)
   exact er (Nat.mul_le_mul_left _ h2) h1
  have ec:((((m&&&M24)/2^(n+1):Nat):Int))*((2^n:Nat):Int)=(((m&&&M24)/2^(n+1)*2^n:Nat):Int):=by simp
  rw [ec,oQ _ (by omega),oV (by omega) hb]
  have hlow:kM m n<4294967296:=by grind [kM,Nat.and_le_left]
  show Y (bZ .or .u32 ((kM m n:Nat):Int) _)=_
  rw [BD hlow (by omega)]
 ·rw [decide_eq_false h,if_neg h];rfl
def my (i:Int) (x:Nat):Nat:=if 0<=i/\i<(x:Int) then x-1 else x
theorem alz (hk:Fu k) (Y:Int->OS S) (i:Int):
  ∀ (r p:List Nat) (m:Nat),(p++r).length<=24->(∀x∈r,x<24)->r.length<m->(∀x∈p,x<24)->
  rW k Y i m (ints (p++r)) (p.length:Int)=Y ((dR (p++r.map (my i)):Nat):Int):=by
 intro r
 induction r with
 |nil=>
  intro p m hl h24 hm hp
  obtain ⟨m,rfl,hm⟩:=aq hm
  simp only [rW,Ce,bR,iq,al hk]
  grind [wM]
 |cons x r ih=>
  intro p m hl h24 hm hp
  obtain ⟨m,rfl,hm⟩:=aq hm
  have hx:=h24 x (by simp)
  have hl':p.length+(r.length+1)<=24:=by grind
  have e0:ints (p++x::r)=ints p++(x:Int)::ints r:=by simp [ints]
  have el:(p.length:Int)=((ints p).length:Int):=by rw [iq]
  simp only [rW,Ce,bR,al hk]
  rw [if_pos (by grind),e0,el,zz]
  simp only [aJ]
  have ew:af .i64 (((ints p).length:Int)+1)=(((p++[x]).length:Nat):Int):=by
   grind [fW]
  have key: ∀y:Nat,y<24->rW k Y i m (ints p++(y:Int)::ints r) (((p++[x]).length:Nat):Int)=Y ((dR ((p++[y])++r.map (my i)):Nat):Int):=by
   intro y hy
   have:=ih (p++[y]) m (by grind) (fun z hz=>h24 z (by simp [hz])) (by grind) (by
    grind)
   grind [ints]
  rw [ew]
  by_cases hi:i>=0
  ·rw [if_pos hi]
   by_cases hxi:(x:Int)>i<;>grind [fW,gb,my]
  grind [my]
theorem agJ (m:Nat) (i:Int):nJ m i=dR ((c7 (if 0<=i/\i<24 then gr (m&&&M24) (2^i.toNat) else m&&&M24)).map (my i)):=by
 unfold nJ
 by_cases h:0<=i/\i<24
 ·rw [if_pos h,if_pos h]
  obtain ⟨n,rfl⟩: ∃n:Nat,i=n:=⟨i.toNat,by omega⟩
  have hn:n<24:=by omega
  rw [gb]
  have hmem: ∀j,j∈c7 (gr (m&&&M24) (2^n))↔(j<24/\m.testBit j=true/\j≠n):=by
   grind [mem_bitsN,qb,lg]
  have hnd:((c7 (gr (m&&&M24) (2^n))).map (my n)).Nodup:=by
   grind [List.Pairwise.imp_of_mem,tH,my]
  apply g6
  intro j
  rw [th _ hnd,Nat.testBit_or,IR,Nat.testBit_mul_two_pow,Nat.testBit_div_two_pow,Nat.testBit_and,lg,Bool.eq_iff_iff]
  grind [my]
 ·rw [if_neg h,if_neg h]
  have e:(c7 (m&&&M24)).map (my i)=c7 (m&&&M24):=by
   conv=>rhs;rw [<-List.map_id (c7 (m&&&M24))]
   grind [List.map_congr_left,mem_bitsN,my]
  grind [Nc]
theorem asL (hk:Fu k) {m:Nat} (hm:m<4294967296) (i:Int) (Y:Int->OS S):t_ k (m:Int) i Y=Y ((nJ m i:Nat):Int):=by
 simp only [t_,NR,al hk,Bh hk hm]
 have hlt:m&&&M24<4294967296:=Nat.lt_of_le_of_lt Nat.and_le_right (by decide)
 have e:(if 0<=i/\i<24 then ((gr (m&&&M24) (2^i.toNat):Nat):Int) else ((m&&&M24:Nat):Int))=(((if 0<=i/\i<24 then gr (m&&&M24) (2^i.toNat) else m&&&M24):Nat):Int):=by grind
 have hq:(if 0<=i/\i<24 then gr (m&&&M24) (2^i.toNat) else m&&&M24)<4294967296:=by
  split
  ·exact Aw (n:=32) hlt
  omega
 rw [e,wL hk hq,agJ]
 generalize (if 0<=i/\i<24 then gr (m&&&M24) (2^i.toNat) else m&&&M24)=q at hq ⊢
 have:=alz hk Y i (c7 q) [] k (by grind [kl]) (fun x hx=>(mem_bitsN.1 hx).1) (by grind [kl]) (by simp)
 simp_all
def a6 (n:Int):Prop:= -9223372036854775808<=n/\n<9223372036854775808
def tb (s:Int):Bool:=decide (s<16777216)
def cS (s i:Int):Bool:=decide (0<=i/\i<24)&&s.toNat.testBit i.toNat
def jf (s i:Int):Int:=if 0<=i/\i<24 then (((s.toNat&&&M24)|||2^i.toNat:Nat):Int) else ((s.toNat&&&M24:Nat):Int)
def fV (s i:Int):Int:=if 0<=i/\i<24 then ((gr (s.toNat&&&M24) (2^i.toNat):Nat):Int) else ((s.toNat&&&M24:Nat):Int)
def jU (s:Int):List Int:=ints (c7 s.toNat)
def eF (s i b:Int):Int×Int:=if i<0\/b<0 then (0,2) else (((it s.toNat i.toNat b.toNat).1:Int),((it s.toNat i.toNat b.toNat).2:Int))
def uq (s i:Int):Int:=((nJ s.toNat i:Nat):Int)
theorem XB (m:Nat):tb (m:Int)=decide (m<16777216):=by
 grind [tb]
theorem X4 (hk:Fu k) {s:Int} (h:U32 s) (Y:Bool->OS S):t7 k s Y=Y (tb s):=by
 obtain ⟨m,hm,rfl⟩:=h.nat
 rw [asI hk hm,XB]
theorem YG (hk:Fu k) {s:Int} (h:U32 s) (Y:Bool->OS S):ua k s Y=Y (tb s):=by
 obtain ⟨m,hm,rfl⟩:=h.nat
 rw [asN hk hm,XB]
theorem wD (hk:Fu k) {s:Int} (h:U32 s) (i:Int) (Y:Bool->OS S):lq k s i Y=Y (cS s i):=by
 obtain ⟨m,hm,rfl⟩:=h.nat
 rw [asG hk hm];rfl
theorem lZ (hk:Fu k) {s:Int} (h:U32 s) (i:Int) (Y:Bool->OS S):gF k s i Y=Y (cS s i):=by
 obtain ⟨m,hm,rfl⟩:=h.nat
 rw [YV hk hm];rfl
theorem A6 (hk:Fu k) {s:Int} (h:U32 s) (i:Int) (Y:Int->OS S):mn k s i Y=Y (jf s i):=by
 obtain ⟨m,hm,rfl⟩:=h.nat
 rw [asJ hk hm];rfl
theorem ar_ (hk:Fu k) {s:Int} (h:U32 s) (i:Int) (Y:Int->OS S):yG k s i Y=Y (jf s i):=by
 obtain ⟨m,hm,rfl⟩:=h.nat
 rw [asO hk hm];rfl
theorem A7 (hk:Fu k) {s:Int} (h:U32 s) (i:Int) (Y:Int->OS S):nB k s i Y=Y (fV s i):=by
 obtain ⟨m,hm,rfl⟩:=h.nat
 rw [asK hk hm];rfl
theorem GY (hk:Fu k) {s:Int} (h:U32 s) (i:Int) (Y:Int->OS S):kw k s i Y=Y (fV s i):=by
 obtain ⟨m,hm,rfl⟩:=h.nat
 rw [Bh hk hm];rfl
theorem ar4 (hk:Fu k) {s:Int} (h:U32 s) (Y:List Int->OS S):mo k s Y=Y (jU s):=by
 obtain ⟨m,hm,rfl⟩:=h.nat
 rw [wL hk hm];rfl
theorem TO {s:Int} (h:U32 s):vS s=jU s:=by
 obtain ⟨m,hm,rfl⟩:=h.nat
 have: ∀i:Nat,(BitVec.ofInt 32 (m:Int)).getLsbD i=m.testBit i:=by
  grind
 simp_all [vS,jU,ints,c7]
theorem X1 (hk:Fu k) {s i b:Int} (h:U32 s) (hi:a6 i) (hb:a6 b) (Y:Int×Int->OS S):pe k s i b Y=Y (eF s i b):=by
 obtain ⟨m,hm,rfl⟩:=h.nat
 by_cases h1:i<0
 ·grind [pe,bR,eF]
 by_cases h2:b<0
 ·grind [pe,bR,eF]
 obtain ⟨n,rfl⟩: ∃n:Nat,i=n:=⟨i.toNat,by omega⟩
 obtain ⟨c,rfl⟩: ∃n:Nat,b=n:=⟨b.toNat,by omega⟩
 have:=hi.2;have:=hb.2
 grind [asH,eF]
theorem YD (hk:Fu k) {s i b:Int} (h:U32 s) (hi:a6 i) (hb:a6 b) (Y:Int×Int->OS S):pf k s i b Y=Y (eF s i b):=by
 obtain ⟨m,hm,rfl⟩:=h.nat
 by_cases h1:i<0
 ·grind [pf,Bn,bR,eF]
 by_cases h2:b<0
 ·grind [pf,Bn,bR,eF]
 obtain ⟨n,rfl⟩: ∃n:Nat,i=n:=⟨i.toNat,by omega⟩
 obtain ⟨c,rfl⟩: ∃n:Nat,b=n:=⟨b.toNat,by omega⟩
 have:=hi.2;have:=hb.2
 grind [asM,eF]
theorem XZ (hk:Fu k) {s:Int} (h:U32 s) (i:Int) (Y:Int->OS S):t6 k s i Y=Y (uq s i):=by
 obtain ⟨m,hm,rfl⟩:=h.nat
 rw [asF hk hm];rfl
theorem YA (hk:Fu k) {s:Int} (h:U32 s) (i:Int) (Y:Int->OS S):t_ k s i Y=Y (uq s i):=by
 obtain ⟨m,hm,rfl⟩:=h.nat
 rw [asL hk hm];rfl
theorem I3 (hk:Fu k) (Y:Int->OS S):pd k 0 Y=Y 0:=by
 simp only [pd,al hk];rfl
theorem I4 (hk:Fu k) (Y:Int->OS S): ∀n:Nat,n<24->pd k ((2^n:Nat):Int) Y=Y 1:=by
 simp only [pd,al hk]
 intro n hn
 match n,hn with
 |0,_|1,_|2,_|3,_|4,_|5,_|6,_|7,_|8,_|9,_|10,_|11,_|12,_|13,_|14,_|15,_|16,_|17,_|18,_|19,_|20,_|21,_|22,_|23,_=>rfl
 |n+24,h=>omega
theorem Ho (i:Int):jf 0 i=if 0<=i/\i<24 then ((2^i.toNat:Nat):Int) else 0:=by
 grind [jf]
theorem aq4 (hk:Fu k) (i:Int) (Y:Bool->OS S):Dr k i Y=Y (decide (0<=i/\i<24)):=by
 simp only [Dr,al hk,A6 hk (s:=0) ⟨by omega,by omega⟩,Ho]
 grind [I4,I3]
theorem aq5 (hk:Fu k) (i:Int) (Y:Bool->OS S):Dy k i Y=Y (decide (0<=i/\i<24)):=by
 simp only [Dy,al hk,A6 hk (s:=0) ⟨by omega,by omega⟩,Ho]
 grind [I4,I3]
theorem U32.of {n:Nat} (h:n<4294967296):U32 (n:Int):=⟨by omega,by omega⟩
theorem withS_lt {s i:Int}:0<=jf s i/\jf s i<16777216:=by
 have h1:s.toNat&&&M24<16777216:=Nat.lt_of_le_of_lt Nat.and_le_right (by decide)
 unfold jf
 split
 ·next h=>
  have hp:2^i.toNat<2^24:=Nat.pow_lt_pow_right (by decide) (by omega)
  have:=Nat.or_lt_two_pow (n:=24) h1 hp
  omega
 ·omega
theorem O2 {s i:Int}:0<=fV s i/\fV s i<16777216:=by
 have h1:s.toNat&&&M24<16777216:=Nat.lt_of_le_of_lt Nat.and_le_right (by decide)
 unfold fV
 split
 ·have:=Aw (n:=24) (b:=2^i.toNat) h1
  omega
 ·omega
theorem agK (m:Nat) (i:Int):nJ m i<16777216:=by
 have h1:m&&&M24<16777216:=Nat.lt_of_le_of_lt Nat.and_le_right (by decide)
 unfold nJ
 split
 ·rw [RT]
  grind [IR,lg]
 omega
deriving instance DecidableEq for Cl
theorem Cl.ext' {a b:Cl} (h1:a.pos=b.pos) (h2:a.neg=b.neg):a=b:=by cases a<;>simp_all
theorem oW (a b:Cl):((a.pos==b.pos)&&((a.neg==b.neg)&&true))=decide (a=b):=by
 grind [Cl.ext']
def bQ (c:Cl):Prop:=U32 c.pos/\U32 c.neg
def aI (f:LC):Prop:= ∀c∈f,bQ c
def jv (c:Cl):Bool:=tb c.pos&&tb c.neg
def RC (c:Cl):Prop:=(0<=c.pos/\c.pos<16777216)/\(0<=c.neg/\c.neg<16777216)
theorem RC.ok {c:Cl} (h:RC c):bQ c:=⟨⟨h.1.1,by have:=h.1.2;omega⟩,⟨h.2.1,by have:=h.2.2;omega⟩⟩
theorem GK {c:Cl} (h:bQ c):jv c=true↔RC c:=by
 unfold jv tb RC
 simp only [aZ,decide_eq_true_eq]
 have h1:=h.1.1;have h2:=h.2.1
 omega
def ic (a b:Int):Int:=((a.toNat|||b.toNat:Nat):Int)
theorem vX {a b:Int} (ha:U32 a) (hb:U32 b):bZ .or .u32 a b=ic a b:=by
 obtain ⟨m,hm,rfl⟩:=ha.nat;obtain ⟨n,hn,rfl⟩:=hb.nat
 rw [BD hm hn];rfl
def gY (a b:Cl):Cl:=⟨ic a.pos b.pos,ic a.neg b.neg⟩
def gz (a b:Cl):Bool:=decide (gY a b=a)
def c6 (c:Cl):Bool:= !decide (c.pos.toNat&&&c.neg.toNat=0)
theorem LF {a b:Int} (ha:U32 a) (hb:U32 b):U32 (ic a b):=by
 obtain ⟨m,hm,rfl⟩:=ha.nat;obtain ⟨n,hn,rfl⟩:=hb.nat
 exact U32.of (Nat.or_lt_two_pow (n:=32) hm hn)
theorem Ue {a b:Int} (ha:0<=a/\a<16777216) (hb:0<=b/\b<16777216):0<=ic a b/\ic a b<16777216:=by
 unfold ic
 have:=Nat.or_lt_two_pow (n:=24) (x:=a.toNat) (y:=b.toNat) (by omega) (by omega)
 omega
theorem FK {a b:Cl} (ha:bQ a) (hb:bQ b):bQ (gY a b):=⟨LF ha.1 hb.1,LF ha.2 hb.2⟩
theorem TR {a b:Cl} (ha:RC a) (hb:RC b):RC (gY a b):=⟨Ue ha.1 hb.1,Ue ha.2 hb.2⟩
theorem X9 (hk:Fu k) {c:Cl} (h:bQ c) (Y:Bool->OS S):yp k c Y=Y (jv c):=by
 simp only [yp,al hk,X4 hk h.1,X4 hk h.2,jv,dX]
 grind
theorem Yw (hk:Fu k) {c:Cl} (h:bQ c) (Y:Bool->OS S):yJ k c Y=Y (jv c):=by
 simp only [yJ,al hk,YG hk h.1,YG hk h.2,jv,dX]
 grind
theorem MW (hk:Fu k) {a b:Cl} (ha:bQ a) (hb:bQ b) (Y:Cl->OS S):tO k a b Y=Y (gY a b):=by
 simp only [tO,vX ha.1 hb.1,vX ha.2 hb.2];rfl
theorem aqY (hk:Fu k) {a b:Cl} (ha:bQ a) (hb:bQ b) (Y:Bool->OS S):Dl k a b Y=Y (gz a b):=by
 simp only [Dl,al hk,MW hk ha hb,oW];rfl
theorem arR (hk:Fu k) {a b:Cl} (ha:bQ a) (hb:bQ b) (Y:Bool->OS S):Ed k a b Y=Y (gz a b):=by
 have e:gz a b=((ic a.pos b.pos==a.pos)&&((ic a.neg b.neg==a.neg)&&true)):=(oW (gY a b) a).symm
 simp only [Ed,vX ha.1 hb.1,vX ha.2 hb.2,dX,e]
 grind
theorem X8 (hk:Fu k) {c:Cl} (h:bQ c) (Y:Bool->OS S):yo k c Y=Y (c6 c):=by
 obtain ⟨p,n⟩:=c
 obtain ⟨m,hm,rfl⟩:=h.1.nat;obtain ⟨n,hn,rfl⟩:=h.2.nat
 simp only [yo,oV hm hn,c6,gb]
 congr 2
 grind
open Classical in
theorem aly (hk:Fu k) {c:Cl} (h:bQ c) (Y:Bool->OS S): ∀ (d i m:Nat),i+d=24->d<m->
  vd k Y c m (i:Int)=Y (decide (∃j,i<=j/\j<24/\c.pos.toNat.testBit j=true/\c.neg.toNat.testBit j=true)):=by
 intro d
 induction d with
 |zero=>
  intro i m e hm
  obtain ⟨m,rfl,hm⟩:=aq hm
  simp only [vd,Cj,bR]
  rw [if_neg (by omega),decide_eq_false]
  rintro ⟨j,h1,h2,_⟩;omega
 |succ d ih=>
  intro i m e hm
  obtain ⟨m,rfl,hm⟩:=aq hm
  have e2:(i:Int)+1=((i+1:Nat):Int):=by simp
  simp only [vd,Cj,al hk,lZ hk h.1,lZ hk h.2,dX,decide_eq_true_eq]
  rw [if_pos (by omega),fW (by omega) (by omega),e2,ih (i+1) m (by omega) (by omega)]
  have hp:cS c.pos (i:Int)=c.pos.toNat.testBit i:=by unfold cS;rw [decide_eq_true (by omega),gR];rfl
  have hn:cS c.neg (i:Int)=c.neg.toNat.testBit i:=by unfold cS;rw [decide_eq_true (by omega),gR];rfl
  rw [hp,hn]
  have step: ¬(c.pos.toNat.testBit i=true/\c.neg.toNat.testBit i=true)->((∃j,i+1<=j/\j<24/\c.pos.toNat.testBit j=true/\c.neg.toNat.testBit j=true)↔(∃j,i<=j/\j<24/\c.pos.toNat.testBit j=true/\c.neg.toNat.testBit j=true)):=by
   intro hne
   constructor
   ·rintro ⟨j,a,b⟩;exact ⟨j,by omega,b⟩
   ·rintro ⟨j,a,b⟩
    refine ⟨j, ?_,b⟩
    have:j≠i:=by rintro rfl;exact hne b.2
    omega
  by_cases h1:c.pos.toNat.testBit i=true
  ·by_cases h2:c.neg.toNat.testBit i=true
   ·rw [if_pos h1,if_pos h2,decide_eq_true]
    exact ⟨i,by omega,by omega,h1,h2⟩
   ·rw [if_pos h1,if_neg h2];simp only [step (fun h=>h2 h.2)]
  ·rw [if_neg h1];simp only [step (fun h=>h1 h.1)]
theorem Yu (hk:Fu k) {c:Cl} (h:RC c) (Y:Bool->OS S):yH k c Y=Y (c6 c):=by
 simp only [yH,NW]
 have:=aly hk h.ok Y 24 0 k (by omega) (by omega)
 refine ak this ?_
 congr 1
 rw [c6,Bool.eq_iff_iff]
 simp only [decide_eq_true_eq,Bool.not_eq_true',decide_eq_false_iff_not]
 constructor
 ·rintro ⟨j,_,_,h1,h2⟩ h0
  have:(c.pos.toNat&&&c.neg.toNat).testBit j=true:=by grind
  grind
 ·intro h0
  apply Classical.byContradiction
  intro hne
  apply h0
  apply g6
  intro j
  rw [Nat.zero_testBit,Nat.testBit_and]
  cases h1:c.pos.toNat.testBit j with
  |false=>rfl
  |true=>
   cases h2:c.neg.toNat.testBit j with
   |false=>rfl
   |true=>
    have hlt:c.pos.toNat<16777216:=by have:=h.1;omega
    exact absurd ⟨j,by omega,oX hlt h1,h1,h2⟩ hne
theorem atK (s:Int) (x:Nat) (hx:x<24) (j:Nat):(jf s (x:Int)).toNat.testBit j=((s.toNat.testBit j&&decide (j<24))||decide (j=x)):=by
 unfold jf
 rw [if_pos (by omega),gb,gb,Nat.testBit_or,Nat.testBit_and,lg,Nat.testBit_two_pow,Bool.eq_iff_iff]
 grind
theorem anw (hk:Fu k) (Y:Int->OS S): ∀ (r p:List Nat) (m:Nat) (a:Int),(p++r).length<=24->(∀x∈r,x<24)->r.length<m->U32 a->
  ∃v:Int,U32 v/\(∀j,v.toNat.testBit j=((a.toNat.testBit j&&(decide (r=[])||decide (j<24)))||decide (j∈r)))/\vg k Y (ints (p++r)) m a (p.length:Int)=Y v:=by
 intro r
 induction r with
 |nil=>
  grind [aq,vg,Cn,bR,iq]
 |cons x r ih=>
  intro p m a hl h24 hm ha
  obtain ⟨m,rfl,hm⟩:=aq hm
  have hx:=h24 x (by simp)
  have hl':p.length+(r.length+1)<=24:=by grind
  have hu:U32 (jf a (x:Int)):=⟨withS_lt.1,by have:=(withS_lt (s:=a) (i:=(x:Int))).2;omega⟩
  obtain ⟨v,hv,hb,hr⟩:=ih (p++[x]) m (jf a (x:Int)) (by grind) (fun z hz=>h24 z (by simp [hz])) (by grind) hu
  refine ⟨v,hv,fun j=> ?_, ?_⟩
  ·grind [atK]
  ·have e0:ints (p++x::r)=ints p++(x:Int)::ints r:=by simp [ints]
   have el:(p.length:Int)=((ints p).length:Int):=by rw [iq]
   simp only [vg,Cn,bR,al hk]
   rw [if_pos (by grind),e0,el,zz]
   simp only [aJ,ar_ hk ha]
   have ew:af .i64 (((ints p).length:Int)+1)=(((p++[x]).length:Nat):Int):=by
    rw [iq,fW (by omega) (by omega)];simp
   grind
theorem YK (hk:Fu k) {a b:Int} (ha:0<=a/\a<16777216) (hb:0<=b/\b<16777216) (Y:Int->OS S):yK k a b Y=Y (ic a b):=by
 have ha':U32 a:=⟨ha.1,by omega⟩
 have hb':U32 b:=⟨hb.1,by omega⟩
 simp only [yK,NZ,al hk,ar4 hk hb',jU]
 obtain ⟨v,hv,hbit,hr⟩:=anw hk Y (c7 b.toNat) [] k a (by grind [kl]) (fun x hx=>(mem_bitsN.1 hx).1) (by grind [kl]) ha'
 refine ak hr ?_
 congr 1
 have:v.toNat=a.toNat|||b.toNat:=by
  apply g6
  intro j
  rw [hbit,Nat.testBit_or,Bool.eq_iff_iff]
  simp only [Bool.or_eq_true,aZ,decide_eq_true_eq,mem_bitsN]
  constructor
  ·grind
  ·rintro (h|h)
   ·exact .inl ⟨h,.inr (oX (m:=a.toNat) (by omega) h)⟩
   ·exact .inr ⟨oX (m:=b.toNat) (by omega) h,h⟩
 have hv0:=hv.1
 unfold ic
 omega
theorem Yv (hk:Fu k) {a b:Cl} (ha:RC a) (hb:RC b) (Y:Cl->OS S):yI k a b Y=Y (gY a b):=by
 simp only [yI,al hk,YK hk ha.1 hb.1,YK hk ha.2 hb.2];rfl
def fM (c:Cl) (i b:Int):Cl×Int:=
 if jv c then
  if (eF c.pos i b).2=0 then if (eF c.neg i b).2=0 then (⟨(eF c.pos i b).1,(eF c.neg i b).1⟩,0) else (⟨0,0⟩,(eF c.neg i b).2)
  else (⟨0,0⟩,(eF c.pos i b).2)
 else (⟨0,0⟩,2)
theorem aq0 (hk:Fu k) {c:Cl} {i b:Int} (h:bQ c) (hi:a6 i) (hb:a6 b) (Y:Cl×Int->OS S):Dq k c i b Y=Y (fM c i b):=by
 simp only [Dq,al hk,X9 hk h,X1 hk h.1 hi hb,X1 hk h.2 hi hb,dX,fM,Bool.not_eq_true',beq_eq_false_iff_ne]
 grind
theorem arS (hk:Fu k) {c:Cl} {i b:Int} (h:bQ c) (hi:a6 i) (hb:a6 b) (Y:Cl×Int->OS S):Ef k c i b Y=Y (fM c i b):=by
 simp only [Ef,al hk,Yw hk h,YD hk h.1 hi hb,YD hk h.2 hi hb,dX,fM,Bool.not_eq_true',beq_eq_false_iff_ne]
 grind
def kN (a b:Cl):Prop:=a.pos<b.pos\/(a.pos=b.pos/\a.neg<b.neg)
def vR (a b:Cl):Bool:=decide (a.pos<b.pos)||(a.pos==b.pos&&decide (a.neg<b.neg))
theorem anI {a b:Cl}:vR a b=true↔kN a b:=by unfold vR kN;simp
theorem RV {a b c:Cl} (h:kN a b) (h':kN b c):kN a c:=by grind [kN]
theorem RU {a:Cl} (h:kN a a):False:=by grind [kN]
theorem an9 (a b:Cl):kN a b\/a=b\/kN b a:=by
 grind [Cl.ext',kN]
abbrev oT (l:LC):Prop:=l.Pairwise kN
theorem G2: ∀ {a b:LC},oT a->oT b->(∀c,c∈a↔c∈b)->a=b:=by
 intro a
 induction a with
 |nil=>
  intro b _ _ h
  cases b with
  |nil=>rfl
  |cons y b=>exact absurd ((h y).2 (by simp)) (by simp)
 |cons x a ih=>
  intro b ha hb h
  cases b with
  |nil=>grind
  |cons y b=>
   have ha':=List.pairwise_cons.1 ha;have hb':=List.pairwise_cons.1 hb
   have hxy:x=y:=by
    rcases gc.1 ((h x).1 (by simp)) with h1|h1
    ·exact h1
    ·rcases gc.1 ((h y).2 (by simp)) with h2|h2<;>grind [RV,RU]
   grind [RU]
def jp (x:Cl):LC->LC
 |[]=>[x]
 |y::r=>if vR y x then y::jp x r else if y=x then y::r else x::y::r
theorem TT {x c:Cl}: ∀ {l:LC},c∈jp x l↔c=x\/c∈l:=by
 intro l
 induction l<;>grind [jp]
theorem akB {x:Cl}: ∀ {l:LC},oT l->oT (jp x l):=by
 intro l
 induction l<;>grind [jp,List.pairwise_cons,TT,anI,an9,RV]
theorem Q5 {x:Cl}: ∀ {l:LC},(jp x l).length<=l.length+1:=by
 intro l
 induction l<;>grind [jp]
def dp (l:LC) (c:Cl):Bool:=l.all fun d=>decide (d=c)|| !gz c d
def nW (o l:LC):LC:=l.foldl (fun o c=>jp c o) o
def fN (l:LC):LC:=nW [] (l.filter (dp l))
theorem aoh {c:Cl}: ∀ {l o:LC},c∈nW o l↔c∈l\/c∈o:=by
 intro l
 induction l with
 |nil=>grind [nW]
 |cons x l ih=>
  intro o
  show c∈nW (jp x o) l↔_
  grind [TT]
theorem akA: ∀ {l o:LC},oT o->oT (nW o l):=by
 intro l
 induction l with
 |nil=>intro o h;exact h
 |cons x l ih=>intro o h;exact ih (akB h)
theorem akz: ∀ {l o:LC},(nW o l).length<=o.length+l.length:=by
 intro l
 induction l<;>grind [nW,Q5]
theorem vT (l:LC):oT (fN l):=akA List.Pairwise.nil
theorem mem_mins {l:LC} {c:Cl}:c∈fN l↔c∈l/\dp l c=true:=by
 grind [fN,aoh]
theorem TV (l:LC):(fN l).length<=l.length:=by
 grind [akz,fN]
theorem TZ {l l':LC} (h: ∀c,c∈l↔c∈l') (c:Cl):dp l c=dp l' c:=by
 grind [dp]
theorem aol {l l':LC} (h: ∀c,c∈l↔c∈l'):fN l=fN l':=
 G2 (vT l) (vT l') fun c=>by grind [mem_mins,TZ]
def ci (l:LC):LC×Int:=if l.all jv then if (fN l).length>64 then ([],3) else (fN l,0) else ([],2)
theorem anE {l l':LC} (h: ∀c,c∈l↔c∈l'):ci l=ci l':=by
 grind [ci,aol]
theorem aqN (hk:Fu k) (a b:Cl) (Y:Bool->OS S):Ee k a b Y=Y (vR a b):=by
 grind [Ee,dX,vR]
theorem amw (hk:Fu k) (Y:Bool->OS S) {c:Cl} (hc:bQ c) {l:LC} (hl:aI l) (hlen:l.length<4294967296):
  ∀ (r p:LC) (m:Nat),l=p++r->r.length<m->vf k Y c l m (p.length:Int)=Y (dp r c):=by
 intro r
 induction r with
 |nil=>
  intro p m h hm
  obtain ⟨m,rfl,hm'⟩:=aq hm
  simp only [vf,Cm,cV h,ah];rfl
 |cons x r ih=>
  intro p m h hm
  obtain ⟨m,rfl,hm'⟩:=aq hm
  obtain ⟨e1,e2,e3,e4⟩:=aR h (by omega)
  have hx:bQ x:=hl x (by grind)
  grind [vf,Cm,oW,dX,dp,al,arR]
theorem arz (hk:Fu k) {c:Cl} (hc:bQ c) {l:LC} (hl:aI l) (hlen:l.length<4294967296) (Y:Bool->OS S):Eg k l c Y=Y (dp l c):=by
 simp only [Eg,NY]
 exact amw hk Y hc hl hlen l [] k rfl (by omega)
theorem Da {S:Type} {p:Prop} [Decidable p] (h:p) (f:Unit->OS S):ag (da p) f=f ():=mg p h f
theorem amC (hk:Fu k) (Y:LC×Int->OS S) (rec1:LC->Int->OS S) {l:LC} {x:Cl} {i:Int} (hx:ai l i=some x) {out:LC} (hout:out.length<4294967296):
  ∀ (r p:LC) (m:Nat),out=p++r->r.length<m->rY k Y rec1 l out i m (p.length:Int)=rec1 (p++jp x r) (af .i64 (i+1)):=by
 intro r
 induction r with
 |nil=>
  intro p m h hm
  obtain ⟨m,rfl,hm'⟩:=aq hm
  have hp:out=p:=by grind
  subst hp
  have e:(((out.length:Int))==((out.length:Int)))=true:=by simp
  simp only [rY,Ck,cV h,ah,e,aj]
  grind [Da,bn,jp]
 |cons y r ih=>
  intro p m h hm
  obtain ⟨m,rfl,hm'⟩:=aq hm
  obtain ⟨e1,e2,e3,e4⟩:=aR h (by omega)
  have hpl:p.length<out.length:=by grind
  have e:(((p.length:Int))==((out.length:Int)))=false:=by
   grind
  have:=ih (p++[y]) m e4 hm'
  simp only [rY,Ck,e1,aj,e2,hx,aJ,al hk,aqN hk,e,ah,oW]
  rw [e3,this]
  cases hb:vR y x with
  |true=>grind [aj,jp]
  |false=>
   rw [ah,jp,if_neg (by grind)]
   by_cases hyx:y=x<;>grind [ah,aj,Da,bn]
theorem amB (hk:Fu k) (Y:LC×Int->OS S) {l:LC} (hl:aI l) (hlen:l.length<2147483648):
  ∀ (r p:LC) (m:Nat) (o:LC),l=p++r->r.length<m->o.length<=p.length->
  n7 k Y l m o (p.length:Int)=Y (if (nW o (r.filter (dp l))).length>64 then ([],3) else (nW o (r.filter (dp l)),0)):=by
 intro r
 induction r with
 |nil=>
  intro p m o h hm ho
  obtain ⟨m,rfl,hm'⟩:=aq hm
  simp only [n7,xq,cV h,ah,bR]
  show _=Y (if o.length>64 then _ else (o,0))
  grind
 |cons x r ih=>
  intro p m o h hm ho
  obtain ⟨m,rfl,hm'⟩:=aq hm
  obtain ⟨e1,e2,e3,e4⟩:=aR h (by omega)
  have hx:bQ x:=hl x (by grind)
  have hk':4294967296<=k:=hk
  have hpl:p.length<l.length:=by grind
  simp only [n7,xq,e1,aj,e2,aJ,al hk,arz hk hx hl (by omega)]
  have hplace:=amC hk Y (n7 k Y l m) e2 (out:=o) (by omega) o [] k rfl (by omega)
  simp only [List.length_nil,dG] at hplace
  rw [show (0:Int)=((0:Nat):Int) from rfl,hplace,e3]
  cases hn:dp l x with
  |true=>
   rw [bY,ah,List.filter_cons_of_pos hn]
   exact ih (p++[x]) m (jp x o) e4 hm' (by grind [Q5])
  |false=>
   rw [ca,aj,List.filter_cons_of_neg (by grind)]
   grind
theorem am1 (hk:Fu k) (Y:LC×Int->OS S) {l:LC} (hl:aI l) (hlen:l.length<2147483648):
  ∀ (r p:LC) (m:Nat),l=p++r->r.length<m->
  ve k Y l m (p.length:Int)=Y (if r.all jv then if (fN l).length>64 then ([],3) else (fN l,0) else ([],2)):=by
 intro r
 induction r with
 |nil=>
  intro p m h hm
  obtain ⟨m,rfl,hm'⟩:=aq hm
  simp only [ve,xp,cV h,ah,List.all_nil,if_true]
  have hk':4294967296<=k:=hk
  exact amB hk Y hl hlen l [] k [] rfl (by omega) (by simp)
 |cons x r ih=>
  intro p m h hm
  obtain ⟨m,rfl,hm'⟩:=aq hm
  obtain ⟨e1,e2,e3,e4⟩:=aR h (by omega)
  have hx:bQ x:=hl x (by grind)
  grind [ve,xp,aj,al,Yw,ah]
theorem te (hk:Fu k) {l:LC} (hl:aI l) (hlen:l.length<2147483648) (Y:LC×Int->OS S):mr k l Y=Y (ci l):=by
 simp only [mr,NX]
 exact am1 hk Y hl hlen l [] k rfl (by omega)
theorem aqM (hk:Fu k) {d c:Cl} (hd:bQ d) (hc:bQ c) (Y:Bool->OS S):Dp k d c Y=Y (!(decide (d=c)|| !gz c d)):=by
 grind [Dp,oW,dX,al,aqY,gz]
theorem ami (hk:Fu k) (Y:Int->OS S) {c:Cl} (hc:bQ c) {l:LC} (hl:aI l) (hlen:l.length<2147483648):
  ∀ (r p:LC) (m:Nat),l=p++r->r.length<m-> ∃v:Int,decide (v>=0)= !dp r c/\vF k Y c l m (p.length:Int)=Y v:=by
 intro r
 induction r with
 |nil=>
  intro p m h hm
  obtain ⟨m,rfl,hm'⟩:=aq hm
  exact ⟨-1,rfl,by grind [vF,CV,ah]⟩
 |cons x r ih=>
  intro p m h hm
  obtain ⟨m,rfl,hm'⟩:=aq hm
  obtain ⟨e1,e2,e3,e4⟩:=aR h (by omega)
  have hx:bQ x:=hl x (by grind)
  obtain ⟨v,hv,hr⟩:=ih (p++[x]) m e4 hm'
  have e0:dp (x::r) c=((decide (x=c)|| !gz c x)&&dp r c):=by rfl
  grind [vF,CV,aj,al,aqM,decide,gz,ah]
theorem arA (hk:Fu k) {c:Cl} (hc:bQ c) {l:LC} (hl:aI l) (hlen:l.length<2147483648) (Y:Bool->OS S):Dm k c l Y=Y (!dp l c):=by
 obtain ⟨v,hv,hr⟩:=ami hk (fun r1:Int=>Y (decide (r1>=0))) hc hl hlen l [] k rfl (by omega)
 grind [Dm,Ju,Jw,OH,al]
theorem aml (hk:Fu k) (Y:LC×Int->OS S) {l:LC} (hl:aI l) (hlen:l.length<2147483648):
  ∀ (r p:LC) (m:Nat) (q:LC),l=p++r->r.length<m->q.length<=p.length->
  rN k Y l m (p.length:Int) q=Y (if (q++r.filter (dp l)).length>64 then ([],3) else (sortCl (q++r.filter (dp l)),0)):=by
 intro r
 induction r with
 |nil=>
  grind [aq,rN,BF,bR]
 |cons x r ih=>
  intro p m q h hm hq
  obtain ⟨m,rfl,hm'⟩:=aq hm
  obtain ⟨e1,e2,e3,e4⟩:=aR h (by omega)
  have hx:bQ x:=hl x (by grind)
  have hpl:p.length<l.length:=by grind
  simp only [rN,BF,e1,aj,e2,aJ,al hk,arA hk hx hl hlen,Bool.not_not]
  rw [e3]
  cases hn:dp l x with
  |true=>
   rw [aj,bn (by grind),List.filter_cons_of_pos hn,ih (p++[x]) m (q++[x]) e4 hm' (by grind)]
   simp
  |false=>
   rw [ah,List.filter_cons_of_neg (by grind)]
   grind
theorem E7 (a b:Cl):iQ VV ET.C a b=decide (a=b):=by
 have e:iQ VV ET.C a b=((a.pos==b.pos)&&((a.neg==b.neg)&&true)):=by
  rfl
 rw [e,oW]
theorem aok (l:List (Cl×Bool)) (x y:Cl):gK VV ET.C (jr VV ET.C l x true) y=if x=y then some true else gK VV ET.C l y:=by
 induction l with
 |nil=>
  show (bif iQ VV ET.C x y then some true else .none)=_
  simp_all [E7,gK]
 |cons a r ih=>
  obtain ⟨z,b⟩:=a
  show gK VV ET.C (bif iQ VV ET.C z x then (z,true)::r else (z,b)::jr VV ET.C r x true) y=_
  rw [E7]
  by_cases h:z=x
  ·subst h
   rw [decide_eq_true rfl,cond_true]
   show (bif iQ VV ET.C z y then some true else gK VV ET.C r y)=if z=y then some true else (bif iQ VV ET.C z y then some b else gK VV ET.C r y)
   grind [E7]
  ·rw [decide_eq_false h,cond_false]
   show (bif iQ VV ET.C z y then some b else gK VV ET.C (jr VV ET.C r x true) y)=if x=y then some true else (bif iQ VV ET.C z y then some b else gK VV ET.C r y)
   grind [E7]
theorem asx {l o:LC} (hn:o.Nodup) (h: ∀c,c∈o↔c∈l):sortCl (o.filter (dp o))=fN l/\(o.filter (dp o)).length=(fN l).length:=by
 have hp:(sortCl (o.filter (dp o))).Perm (o.filter (dp o)):=List.mergeSort_perm _ _
 have hs:(sortCl (o.filter (dp o))).Pairwise (fun a b=>oZ a b=true):=
  List.pairwise_mergeSort (le:=oZ) (fun a b c h1 h2=>by
   grind [oZ]) (fun a b=>by
   grind [oZ]) _
 have hnd:(sortCl (o.filter (dp o))).Nodup:=hp.nodup_iff.2 (hn.filter _)
 have hsorted:oT (sortCl (o.filter (dp o))):=by
  refine (hs.and hnd).imp fun {a b} h=> ?_
  have h1:=h.1
  unfold oZ at h1
  simp only [Bool.or_eq_true,aZ,decide_eq_true_eq,beq_iff_eq] at h1
  rcases h1 with h1|h1
  ·exact .inl h1
  ·refine .inr ⟨h1.1, ?_⟩
   grind [Cl.ext']
 have he:sortCl (o.filter (dp o))=fN l:=G2 hsorted (vT l) fun c=>by
  grind [mem_mins,TZ]
 exact ⟨he,by rw [<-he,hp.length_eq]⟩
theorem anq (hk:Fu k) (Y:LC×Int->OS S) {l:LC} (hl:aI l) (hlen:l.length<2147483648):
  ∀ (r p:LC) (m:Nat) (q:List (Cl×Bool)) (o:LC),l=p++r->r.length<m->o.length<=p.length->o.Nodup->(∀c:Cl,(gK VV ET.C q c).getD false=decide (c∈o))->(∀c,c∈o↔c∈p)->
  uK k Y l m q o (p.length:Int)=Y (if r.all jv then if (fN l).length>64 then ([],3) else (fN l,0) else ([],2)):=by
 intro r
 induction r with
 |nil=>
  intro p m q o h hm ho hnd hq hmem
  obtain ⟨m,rfl,hm'⟩:=aq hm
  have hp:l=p:=by grind
  subst hp
  have hol:aI o:=fun c hc=>hl c ((hmem c).1 hc)
  have hk':4294967296<=k:=hk
  simp only [uK,xb,cV h,ah,List.all_nil,if_true]
  have:=aml hk Y hol (by omega) o [] k [] rfl (by omega) (by simp)
  grind [asx]
 |cons x r ih=>
  intro p m q o h hm ho hnd hq hmem
  obtain ⟨m,rfl,hm'⟩:=aq hm
  obtain ⟨e1,e2,e3,e4⟩:=aR h (by omega)
  have hx:bQ x:=hl x (by grind)
  have hpl:p.length<l.length:=by grind
  simp only [uK,xb,e1,aj,e2,aJ,al hk,X9 hk hx]
  rw [hq,e3]
  by_cases hr:jv x=true
  ·have:(x::r).all jv=r.all jv:=by grind
   rw [hr,bY,ah,this]
   by_cases hxo:x∈o
   ·grind [ah]
   ·rw [decide_eq_false hxo,ca,aj,bn (by grind)]
    refine ih (p++[x]) m _ (o++[x]) e4 hm' (by grind) (List.nodup_append.2 ⟨hnd,by simp,fun a ha b hb=>by grind⟩) (fun c=> ?_) fun c=> ?_
    all_goals grind [aok]
  grind [aj]
theorem oK (hk:Fu k) {l:LC} (hl:aI l) (hlen:l.length<2147483648) (Y:LC×Int->OS S):ko k l Y=Y (ci l):=by
 simp only [ko,Np]
 exact anq hk Y hl hlen l [] k [] [] rfl (by omega) (by simp) List.nodup_nil (fun c=>by rfl) (fun c=>Iff.rfl)
theorem alA (hk:Fu k) (Y:Bool->OS S) {a b:LC} (hlen:a.length<4294967296):
  ∀ (r s p q:LC) (m:Nat),a=p++r->b=q++s->p.length=q.length->r.length=s.length->r.length<m->vE k Y a b m (p.length:Int)=Y (decide (r=s)):=by
 intro r
 induction r with
 |nil=>
  grind [aq,vE,CU,ah]
 |cons x r ih=>
  intro s p q m h h' hpq hrs hm
  obtain ⟨m,rfl,hm'⟩:=aq hm
  cases s with
  |nil=>cases hrs
  |cons y s=>
   obtain ⟨e1,e2,e3,e4⟩:=aR h (by omega)
   have e2':ai b (p.length:Int)=some y:=by grind [zz]
   simp only [vE,CU,e1,aj,e2,e2',aJ,oW,e3]
   rw [ih s (p++[x]) (q++[y]) m e4 (by grind) (by simp_all) (by grind) hm']
   by_cases hxy:x=y<;>simp_all [ah,aj]
theorem aqE (hk:Fu k) {a b:LC} (hlen:a.length<4294967296) (Y:Bool->OS S):EI k a b Y=Y (decide (a=b)):=by
 simp only [EI,OG]
 by_cases h:a.length=b.length
 ·have e:((a.length:Int)==(b.length:Int))=true:=by simp [h]
  rw [e,bY,ah]
  exact alA hk Y hlen a b [] [] k rfl rfl rfl h (by omega)
 ·have e:((a.length:Int)==(b.length:Int))=false:=by grind
  rw [e,ca,aj,decide_eq_false]
  grind
theorem alD (hk:Fu k) (Y:Bool->OS S) {a b:LC} (hlen:a.length<4294967296):
  ∀ (r s p q:LC) (m:Nat),a=p++r->b=q++s->p.length=q.length->r.length=s.length->r.length<m->n8 k Y a b m (p.length:Int)=Y (decide (r=s)):=by
 intro r
 induction r with
 |nil=>
  grind [aq,n8,tw,ah]
 |cons x r ih=>
  intro s p q m h h' hpq hrs hm
  obtain ⟨m,rfl,hm'⟩:=aq hm
  cases s with
  |nil=>cases hrs
  |cons y s=>
   obtain ⟨e1,e2,e3,e4⟩:=aR h (by omega)
   have e2':ai b (p.length:Int)=some y:=by grind [zz]
   simp only [n8,tw,e1,aj,e2,e2',aJ,oW,e3]
   rw [ih s (p++[x]) (q++[y]) m e4 (by simp_all) (by simp_all) (by grind) hm']
   by_cases hxy:x=y<;>simp_all [ah,aj]
theorem aqP (hk:Fu k) {a b:LC} (hlen:a.length<4294967296) (Y:Bool->OS S):ph k a b Y=Y (decide (a=b)):=by
 simp only [ph,G9]
 by_cases h:a.length=b.length
 ·have e:((a.length:Int)==(b.length:Int))=true:=by simp [h]
  rw [e,bY,ah]
  exact alD hk Y hlen a b [] [] k rfl rfl rfl h (by omega)
 ·have e:((a.length:Int)==(b.length:Int))=false:=by grind
  rw [e,ca,aj,decide_eq_false]
  grind
theorem RL (l:LC):(ci l).1.length<=64:=by
 grind [ci]
def cD (f:LC):Bool:=decide (ci f=(f,0))
theorem wG (hk:Fu k) {f:LC} (hf:aI f) (hlen:f.length<2147483648) (Y:Bool->OS S):lm k f Y=Y (cD f):=by
 have:=RL f
 simp only [lm,al hk,oK hk hf hlen,aqE hk (show (ci f).1.length<4294967296 by omega),dX,cD,beq_iff_eq]
 by_cases h:(ci f).2=0
 all_goals simp_all [Prod.ext_iff]
theorem kR (hk:Fu k) {f:LC} (hf:aI f) (hlen:f.length<2147483648) (Y:Bool->OS S):hU k f Y=Y (cD f):=by
 have:=RL f
 simp only [hU,al hk,te hk hf hlen,aqP hk (show (ci f).1.length<4294967296 by omega),dX,cD,beq_iff_eq]
 by_cases h:(ci f).2=0
 all_goals simp_all [Prod.ext_iff]
def RF (f:LC):Prop:=ci f=(f,0)/\aI f
theorem jx {f:LC} (h:aI f):cD f=true↔RF f:=by grind [cD,RF]
theorem RF.right {f:LC} (h:RF f):cD f=true:=by unfold cD;simp [h.1]
theorem FH {l o:LC} (h:ci l=(o,0)):o=fN l/\l.all jv=true/\o.length<=64:=by
 grind [ci]
theorem RF.len {f:LC} (h:RF f):f.length<=64:=(FH h.1).2.2
theorem RF.rc {f:LC} (h:RF f) {c:Cl} (hc:c∈f):RC c:=(GK (h.2 c hc)).1 (dA.1 (FH h.1).2.1 c hc)
theorem aom (l:LC):fN (fN l)=fN l:=G2 (vT _) (vT _) fun c=>by
 grind [mem_mins,dp]
theorem vP {l:LC} (hl:aI l) (h:(ci l).2=0):RF (ci l).1:=by
 have h':ci l=((ci l).1,0):=Prod.ext rfl h
 obtain ⟨h1,h2,h3⟩:=FH h'
 have hok:aI (ci l).1:=fun c hc=>hl c ((mem_mins.1 (h1▸hc)).1)
 refine ⟨?_,hok⟩
 grind [ci,mem_mins,aom]
theorem RM {l:LC} (h:(ci l).2≠0):(ci l).1=[]:=by
 grind [ci]
theorem wz:RF []:=⟨rfl,fun c hc=>by cases hc⟩
theorem kP {c:Cl} (h:RC c):RF [c]:=by
 have hok:aI [c]:=fun d hd=>by simp at hd;subst hd;exact h.ok
 refine ⟨?_,hok⟩
 have hm:fN [c]=[c]:=G2 (vT _) (by simp) fun d=>by
  grind [mem_mins,dp]
 unfold ci
 rw [hm,if_pos (by simp [(GK h.ok).2 h]),if_neg (by simp)]
theorem s_:RC ⟨0,0⟩:=⟨⟨by decide,by decide⟩,by decide,by decide⟩
theorem iY {f g:LC} (hf:aI f) (hg:aI g):aI (f++g):=fun c hc=>by
 rcases eL.1 hc with h|h
 ·exact hf c h
 ·exact hg c h
theorem am2 (hk:Fu k) (Y:Int->OS S) {l:List (LC)} (hl: ∀f∈l,aI f/\f.length<2147483648) (hlen:l.length<4294967296):
  ∀ (r p:List (LC)) (m:Nat),l=p++r->r.length<m->uV k Y l m (p.length:Int)=Y (if r.all cD then 0 else 2):=by
 intro r
 induction r with
 |nil=>
  grind [aq,uV,BY,ah]
 |cons x r ih=>
  intro p m h hm
  obtain ⟨m,rfl,hm'⟩:=aq hm
  obtain ⟨e1,e2,e3,e4⟩:=aR h (by omega)
  have hx:=hl x (by grind)
  grind [uV,BY,aj,al,wG,ah]
theorem M0 (hk:Fu k) {l:List (LC)} (hl: ∀f∈l,aI f/\f.length<2147483648) (hlen:l.length<4294967296) (Y:Int->OS S):tV k l Y=Y (if l.all cD then 0 else 2):=by
 simp only [tV,NI]
 exact am2 hk Y hl hlen l [] k rfl (by omega)
def ef (f g:LC):LC×Int:=ci (f++g)
def meets (f g:LC):LC:=f.flatMap fun a=>g.map (gY a)
def eV (f g:LC):LC×Int:=ci (meets f g)
theorem TS {f g:LC} (hf:aI f) (hg:aI g):aI (meets f g):=fun c hc=>by
 obtain ⟨a,ha,hc⟩:=List.mem_flatMap.1 hc
 obtain ⟨b,hb,rfl⟩:=dS.1 hc
 exact FK (hf a ha) (hg b hb)
theorem oA {f g:LC} (hf:aI f) (hg:aI g) (h:(eV f g).2=0):RF (eV f g).1:=vP (TS hf hg) h
theorem Q8 {f g:LC} (hf:aI f) (hg:aI g) (h:(ef f g).2=0):RF (ef f g).1:=vP (iY hf hg) h
theorem GQ (hk:Fu k) {f g:LC} (hf:aI f) (hg:aI g) (h1:f.length<1073741824) (h2:g.length<1073741824) (Y:LC×Int->OS S):rj k f g Y=Y (ef f g):=by
 simp only [rj,al hk,dG]
 rw [bn (by grind),bn (by omega),oK hk (iY hf hg) (by grind)]
 rfl
theorem amu (hk:Fu k) (Y:LC×Int->OS S) (rec0:Int->LC->OS S) {x:Cl} (hx:bQ x) {g f:LC} {v:Int} (hg:aI g) (hlen:g.length<65536):
  ∀ (r p:LC) (m:Nat) (o:LC),g=p++r->r.length<m->o.length+r.length<1099511627776->rO k Y rec0 x g f v m (p.length:Int) o=rec0 (af .i64 (v+1)) (o++r.map (gY x)):=by
 intro r
 induction r with
 |nil=>
  intro p m o h hm ho
  obtain ⟨m,rfl,hm'⟩:=aq hm
  grind [rO,BW,ah]
 |cons y r ih=>
  intro p m o h hm ho
  obtain ⟨m,rfl,hm'⟩:=aq hm
  obtain ⟨e1,e2,e3,e4⟩:=aR h (by omega)
  have hy:bQ y:=hg y (by grind)
  simp only [cM] at ho
  simp only [rO,BW,e1,aj,e2,aJ,al hk,MW hk hx hy,e3]
  grind [bn]
theorem amt (hk:Fu k) (Y:LC×Int->OS S) {g f:LC} (hf:aI f) (hg:aI g) (hlf:f.length<32768) (hlg:g.length<32768):
  ∀ (r p:LC) (m:Nat) (o:LC),f=p++r->r.length<m->aI o->o.length+r.length*g.length<1073741825->pO k Y g f m (p.length:Int) o=Y (ci (o++meets r g)):=by
 intro r
 induction r with
 |nil=>
  grind [aq,pO,xe,ah,al,oK,meets]
 |cons x r ih=>
  intro p m o h hm hok ho
  obtain ⟨m,rfl,hm'⟩:=aq hm
  obtain ⟨e1,e2,e3,e4⟩:=aR h (by omega)
  have hx:bQ x:=hf x (by grind)
  have hmul:(x::r).length*g.length=r.length*g.length+g.length:=by grind
  rw [hmul] at ho
  have hk':4294967296<=k:=hk
  simp only [pO,xe,e1,aj,e2,aJ]
  have:=amu hk Y (pO k Y g f m) (f:=f) (v:=(p.length:Int)) hx hg (by omega) g [] k o rfl (by omega) (by omega)
  simp only [List.length_nil] at this
  rw [show (0:Int)=((0:Nat):Int) from rfl,this,e3,ih (p++[x]) m _ e4 hm' (iY hok fun c hc=>by
   obtain ⟨b,hb,rfl⟩:=dS.1 hc
   exact FK hx (hg b hb)) (by grind)]
  simp [meets]
theorem A9 (hk:Fu k) {f g:LC} (hf:aI f) (hg:aI g) (h1:f.length<32768) (h2:g.length<32768) (Y:LC×Int->OS S):nA k f g Y=Y (eV f g):=by
 simp only [nA,NG]
 have hb:f.length*g.length<1073741824:=Nat.lt_of_le_of_lt (Nat.mul_le_mul (Nat.le_of_lt_succ h1) (Nat.le_of_lt_succ h2)) (by decide)
 have:=amt hk Y hf hg h1 h2 f [] k [] rfl (by omega) (fun c hc=>by cases hc) (by grind)
 grind [eV]
theorem ana (hk:Fu k) (Y:LC×Int->OS S) (rec0:LC->Int->OS S) {x:Cl} (hx:RC x) {g f:LC} {v:Int} (hfx:ai f v=some x) (hg: ∀c∈g,RC c) (hlen:g.length<65536):
  ∀ (r p:LC) (m:Nat) (o:LC),g=p++r->r.length<m->o.length+r.length<1099511627776->r_ k Y rec0 f g v m o (p.length:Int)=rec0 (o++r.map (gY x)) (af .i64 (v+1)):=by
 intro r
 induction r with
 |nil=>
  intro p m o h hm ho
  obtain ⟨m,rfl,hm'⟩:=aq hm
  grind [r_,Cq,ah]
 |cons y r ih=>
  intro p m o h hm ho
  obtain ⟨m,rfl,hm'⟩:=aq hm
  obtain ⟨e1,e2,e3,e4⟩:=aR h (by omega)
  have hy:RC y:=hg y (by grind)
  simp only [cM] at ho
  simp only [r_,Cq,e1,aj,e2,hfx,aJ,al hk,Yv hk hx hy,e3]
  grind [bn]
theorem am_ (hk:Fu k) (Y:LC×Int->OS S) {g f:LC} (hf: ∀c∈f,RC c) (hg: ∀c∈g,RC c) (hlf:f.length<32768) (hlg:g.length<32768):
  ∀ (r p:LC) (m:Nat) (o:LC),f=p++r->r.length<m->aI o->o.length+r.length*g.length<1073741825->pR k Y f g m o (p.length:Int)=Y (ci (o++meets r g)):=by
 intro r
 induction r with
 |nil=>
  grind [aq,pR,xu,ah,al,te,meets]
 |cons x r ih=>
  intro p m o h hm hok ho
  obtain ⟨m,rfl,hm'⟩:=aq hm
  obtain ⟨e1,e2,e3,e4⟩:=aR h (by omega)
  have hx:RC x:=hf x (by grind)
  have hmul:(x::r).length*g.length=r.length*g.length+g.length:=by grind
  rw [hmul] at ho
  have hk':4294967296<=k:=hk
  simp only [pR,xu,e1,aj]
  have:=ana hk Y (pR k Y f g m) hx e2 hg (by omega) g [] k o rfl (by omega) (by omega)
  simp only [List.length_nil] at this
  rw [show (0:Int)=((0:Nat):Int) from rfl,this,e3,ih (p++[x]) m _ e4 hm' (iY hok fun c hc=>by
   obtain ⟨b,hb,rfl⟩:=dS.1 hc
   exact (TR hx (hg b hb)).ok) (by grind)]
  simp [meets]
theorem RF.lt {f:LC} (h:RF f):f.length<2147483648:=by have:=h.len;omega
theorem GT (hk:Fu k) {f g:LC} (hf:RF f) (hg:RF g) (Y:LC×Int->OS S):nD k f g Y=Y (eV f g):=by
 have l1:=hf.len;have l2:=hg.len
 simp only [nD,N5,al hk,kR hk hf.2 hf.lt,kR hk hg.2 hg.lt,hf.right,hg.right,bY,ah]
 have hb:f.length*g.length<=64*64:=Nat.mul_le_mul l1 l2
 have:=am_ hk Y (fun c hc=>hf.rc hc) (fun c hc=>hg.rc hc) (by omega) (by omega) f [] k [] rfl (by omega) (fun c hc=>by cases hc) (by grind)
 grind [eV]
theorem arT (hk:Fu k) {f g:LC} (hf:RF f) (hg:RF g) (Y:LC×Int->OS S):Eh k f g Y=Y (ef f g):=by
 have l1:=hf.len;have l2:=hg.len
 simp only [Eh,al hk,kR hk hf.2 hf.lt,kR hk hg.2 hg.lt,hf.right,hg.right,bY,ah,dG]
 rw [bn (by grind),bn (by omega),te hk (iY hf.2 hg.2) (by grind)]
 rfl
theorem u0:U32 0:=⟨by decide,by decide⟩
def nl (i:Int):Cl:=⟨0,jf 0 i⟩
def pl (i:Int):Cl:=⟨jf 0 i,0⟩
theorem Lu (i:Int):RC (nl i):=⟨⟨by show (0:Int)<=0;decide,by show (0:Int)<16777216;decide⟩,withS_lt⟩
theorem LJ (i:Int):RC (pl i):=⟨withS_lt,⟨by show (0:Int)<=0;decide,by show (0:Int)<16777216;decide⟩⟩
def vW (c:Cl):LC:=(jU c.pos).map nl++(jU c.neg).map pl
def sP (c:Cl):LC×Int:=ci (vW c)
theorem KV (s:Int):(jU s).length<=24:=by grind [jU,iq,kl]
theorem Uc {c d:Cl} (h:d∈vW c):RC d:=by
 rcases eL.1 h with h|h<;>grind [Lu,LJ]
theorem ao6 (c:Cl):(vW c).length<=48:=by
 grind [KV,vW]
theorem RO {l:LC} (h: ∀c∈l,RC c) (hl:l.length<=64):(ci l).2=0:=by
 have:=TV l
 unfold ci
 rw [if_pos (dA.2 fun c hc=>(GK (h c hc).ok).2 (h c hc)),if_neg (by omega)]
theorem Ud (c:Cl):(sP c).2=0:=RO (fun d hd=>Uc hd) (by have:=ao6 c;omega)
theorem FO (c:Cl):RF (sP c).1:=vP (fun d hd=>(Uc hd).ok) (Ud c)
theorem amy (hk:Fu k) (Y:LC×Int->OS S) {l:List Int} (hlen:l.length<=64):
  ∀ (r p:List Int) (m:Nat) (o:LC),l=p++r->r.length<m->aI o->o.length+r.length<1073741824->rP k Y l m (p.length:Int) o=Y (ci (o++r.map pl)):=by
 intro r
 induction r with
 |nil=>
  grind [aq,rP,BX,ah,al,oK]
 |cons x r ih=>
  intro p m o h hm hok ho
  obtain ⟨m,rfl,hm'⟩:=aq hm
  obtain ⟨e1,e2,e3,e4⟩:=aR h (by omega)
  simp only [cM] at ho
  simp only [rP,BX,e1,aj,e2,aJ,al hk,A6 hk u0,e3]
  rw [bn (by grind),ih (p++[x]) m _ e4 hm' (iY hok fun c hc=>by simp at hc;subst hc;exact (LJ x).ok) (by grind)]
  simp [pl]
theorem amx (hk:Fu k) (Y:LC×Int->OS S) {c:Cl} (hc:bQ c) {l:List Int} (hlen:l.length<=64):
  ∀ (r p:List Int) (m:Nat) (o:LC),l=p++r->r.length<m->aI o->o.length+r.length<1000000->uU k Y c l m (p.length:Int) o=Y (ci (o++r.map nl++(jU c.neg).map pl)):=by
 intro r
 induction r with
 |nil=>
  intro p m o h hm hok ho
  obtain ⟨m,rfl,hm'⟩:=aq hm
  simp only [List.length_nil] at ho
  have hl:=KV c.neg
  have hk':4294967296<=k:=hk
  simp only [uU,xg,cV h,ah,AD,TO hc.2,List.map_nil,dZ]
  grind [amy]
 |cons x r ih=>
  intro p m o h hm hok ho
  obtain ⟨m,rfl,hm'⟩:=aq hm
  obtain ⟨e1,e2,e3,e4⟩:=aR h (by omega)
  simp only [cM] at ho
  simp only [uU,xg,e1,aj,e2,aJ,al hk,A6 hk u0,e3]
  rw [bn (by grind),ih (p++[x]) m _ e4 hm' (iY hok fun c hc=>by simp at hc;subst hc;exact (Lu x).ok) (by grind)]
  simp [nl]
theorem arC (hk:Fu k) {c:Cl} (hc:bQ c) (Y:LC×Int->OS S):DJ k c Y=Y (sP c):=by
 have hl:=KV c.pos
 simp only [DJ,NH,AD,TO hc.1]
 have:=amx hk Y hc (l:=jU c.pos) (by omega) (jU c.pos) [] k [] rfl (by omega) (fun c hc=>by cases hc) (by grind)
 grind [sP,vW]
def nc (c:Cl) (i:Nat):LC:=(if cS c.pos i then [nl i] else [])++(if cS c.neg i then [pl i] else [])
def nd (c:Cl) (n:Nat):LC:=(dB n).flatMap (nc c)
theorem ata (c:Cl) (i:Nat):(nc c i).length<=2:=by grind [nc]
theorem atb {c d:Cl} {i:Nat} (h:d∈nc c i):RC d:=by
 grind [nc,Lu,LJ]
theorem Zf (c:Cl) (n:Nat):nd c (n+1)=nd c n++nc c n:=by simp [nd,List.range_succ]
theorem Ze (c:Cl) (n:Nat):(nd c n).length<=2*n:=by
 induction n<;>grind [nd,Zf,ata]
theorem atc {c d:Cl} {n:Nat} (h:d∈nd c n):RC d:=by
 obtain ⟨i,_,hi⟩:=List.mem_flatMap.1 h;exact atb hi
theorem asq (hk:Fu k) (i:Nat) (hi:i<24) (Y:Int->OS S):mq k [(i:Int)] Y=Y (jf 0 i):=by
 have:=wM hk [i] (by simp) (by grind) Y
 grind [ints,Ho,dR]
theorem anv (hk:Fu k) (Y:LC->OS S) {c:Cl} (hc:bQ c): ∀ (d i m:Nat),i+d=24->d<m->vk k Y c m (nd c i) (i:Int)=Y (ci (nd c 24)).1:=by
 intro d
 induction d with
 |zero=>
  intro i m e hm
  obtain ⟨m,rfl,hm'⟩:=aq hm
  have:i=24:=by omega
  subst this
  have hlen:=Ze c 24
  simp only [vk,Ct,bR,al hk,te hk (show aI (nd c 24) from fun d hd=>(atc hd).ok) (by omega)]
  rfl
 |succ d ih=>
  intro i m e hm
  obtain ⟨m,rfl,hm'⟩:=aq hm
  have e2:(i:Int)+1=((i+1:Nat):Int):=by simp
  have hlen:=Ze c i
  simp only [vk,Ct,al hk,lZ hk hc.1,lZ hk hc.2,dX,decide_eq_true_eq,asq hk i (by omega)]
  rw [if_pos (by omega),fW (by omega) (by omega),e2]
  have hi:=ih (i+1) m (by omega) (by omega)
  rw [Zf] at hi
  cases hp:cS c.pos (i:Int)<;>cases hn:cS c.neg (i:Int)<;>simp only [nc,hp,hn,if_true,Bool.false_eq_true,if_false,dZ,dG,List.append_assoc,List.singleton_append] at hi ⊢
  ·exact hi
  ·rw [bn (by grind)];exact hi
  ·rw [bn (by grind)];exact hi
  ·rw [bn (by grind),bn (by grind)];exact hi
theorem asg (hk:Fu k) {c:Cl} (hc:bQ c) (Y:LC->OS S):Ej k c Y=Y (sP c).1:=by
 simp only [Ej,N8]
 have:=anv hk Y hc 24 0 k (by omega) (by omega)
 refine ak this ?_
 congr 2
 refine anE fun d=> ?_
 unfold nd vW
 rw [List.mem_flatMap,eL,dS,dS]
 have hs: ∀ (s:Int) (x:Int),x∈jU s↔ ∃i:Nat,i<24/\s.toNat.testBit i=true/\x=i:=by
  grind [jU,ints,mem_bitsN]
 have hh: ∀ (s:Int) (i:Nat),i<24->cS s (i:Int)=s.toNat.testBit i:=by
  grind [cS]
 constructor
 ·grind [nc]
 ·rintro (⟨x,hx,rfl⟩|⟨x,hx,rfl⟩)
  ·obtain ⟨i,h1,h2,rfl⟩:=(hs _ _).1 hx
   refine ⟨i,by grind, ?_⟩
   grind [nc]
  ·obtain ⟨i,h1,h2,rfl⟩:=(hs _ _).1 hx
   refine ⟨i,by grind, ?_⟩
   grind [nc]
def ct (step:LC->Cl->LC×Int):LC->LC->LC×Int
 |h,[]=>(h,0)
 |h,c::r=>if (step h c).2=0 then ct step (step h c).1 r else ([],(step h c).2)
def qe (h:LC) (c:Cl):LC×Int:=eV h (sP c).1
def eH (f:LC):LC×Int:=ct qe [⟨0,0⟩] f
theorem aoe {f g:LC} (h:(eV f g).2≠0):(eV f g).1=[]:=RM h
theorem Qy {step:LC->Cl->LC×Int} (hs: ∀h c,RF h->(step h c).2=0->RF (step h c).1): ∀ {r h:LC},RF h->(ct step h r).2=0->RF (ct step h r).1:=by
 intro r
 induction r<;>grind [ct]
theorem Lv (h:LC) (c:Cl) (hh:RF h) (h0:(qe h c).2=0):RF (qe h c).1:=oA hh.2 (FO c).2 h0
theorem mR {f:LC} (h:(eH f).2=0):RF (eH f).1:=Qy Lv (kP s_) h
theorem cH (n:Int):(n==0)=decide (n=0):=by rfl
theorem arB (hk:Fu k) {h:LC} {c:Cl} (hh:RF h) (hc:bQ c) (Y:LC×Int->OS S):DI k h c Y=Y (qe h c):=by
 have:=hh.len;have:=(FO c).len
 simp only [DI,al hk,arC hk hc,Ud,A9 hk hh.2 (FO c).2 (show h.length<32768 by omega) (show (sP c).1.length<32768 by omega)]
 rfl
theorem ama (hk:Fu k) (Y:LC×Int->OS S) {l:LC} (hl:aI l) (hlen:l.length<2147483648):
  ∀ (r p:LC) (m:Nat) (h:LC),l=p++r->r.length<m->RF h->uS k Y l m h (p.length:Int)=Y (ct qe h r):=by
 intro r
 induction r with
 |nil=>
  intro p m h e hm hh
  obtain ⟨m,rfl,hm'⟩:=aq hm
  simp only [uS,BU,cV e,ah];rfl
 |cons x r ih=>
  intro p m h e hm hh
  obtain ⟨m,rfl,hm'⟩:=aq hm
  obtain ⟨e1,e2,e3,e4⟩:=aR e (by omega)
  have hx:bQ x:=hl x (by grind)
  simp only [uS,BU,e1,aj,e2,aJ,al hk,arB hk hh hx,cH,e3]
  grind [ah,Lv,ct,aj]
theorem Yf (hk:Fu k) {f:LC} (hf:aI f) (hlen:f.length<2147483648) (Y:LC×Int->OS S):tU k f Y=Y (eH f):=by
 simp only [tU,al hk,ri,Ji,NE]
 exact ama hk Y hf hlen f [] k _ rfl (by omega) (kP s_)
theorem aq8 (hk:Fu k) {f:LC} (hf:aI f) (hlen:f.length<2147483648) (Y:LC×Int->OS S):DE k f Y=Y (if cD f then eH f else ([],2)):=by
 simp only [DE,al hk,M0 hk (l:=[f]) (by grind) (by simp),Yf hk hf hlen]
 have:[f].all cD=cD f:=by simp
 rw [this]
 by_cases h:cD f=true
 ·rw [if_pos h,if_pos h];rfl
 ·rw [if_neg h,if_neg h];rfl
theorem anc (hk:Fu k) (Y:LC×Int->OS S) {l:LC} (hl:aI l) (hlen:l.length<2147483648):
  ∀ (r p:LC) (m:Nat) (h:LC) (e:Int),l=p++r->r.length<m->(e=0->RF h)->(e≠0->h=[])->vi k Y l m h e (p.length:Int)=Y (if e=0 then ct qe h r else ([],e)):=by
 intro r
 induction r with
 |nil=>
  intro p m h e el hm h1 h2
  obtain ⟨m,rfl,hm'⟩:=aq hm
  simp only [vi,Cr,cV el,ah]
  by_cases h0:e=0
  ·rw [if_pos h0,h0];rfl
  grind
 |cons x r ih=>
  intro p m h e el hm h1 h2
  obtain ⟨m,rfl,hm'⟩:=aq hm
  obtain ⟨e1,e2,e3,e4⟩:=aR el (by omega)
  have hx:bQ x:=hl x (by grind)
  simp only [vi,Cr,e1,aj,cH,e3,e2,aJ,al hk,asg hk hx]
  by_cases h0:e=0
  ·have hh:=h1 h0
   rw [decide_eq_true h0,aj,GT hk hh (FO x),if_pos h0]
   have:=ih (p++[x]) m (qe h x).1 (qe h x).2 e4 hm' (fun h0=>Lv h x hh h0) (fun h0=>aoe h0)
   exact this
  grind [ah]
theorem YE (hk:Fu k) {f:LC} (hf:aI f) (hlen:f.length<2147483648) (Y:LC×Int->OS S):uc k f Y=Y (if cD f then eH f else ([],2)):=by
 simp only [uc,N6,al hk,kR hk hf hlen]
 by_cases h:cD f=true
 ·rw [h,bY,ah,if_pos rfl]
  have:=anc hk Y hf hlen f [] k [⟨0,0⟩] 0 rfl (by omega) (fun _=>kP s_) (fun h=>absurd rfl h)
  rw [if_pos rfl] at this
  exact this
 grind [aj]
def dD (i:Int) (c:Cl):Cl:=⟨fV c.pos i,fV c.neg i⟩
theorem nS (i:Int) (c:Cl):RC (dD i c):=⟨O2,O2⟩
def gZ (i:Int) (r:LC) (c:Cl):LC×Int:=if cS c.pos i then eV [dD i c] r else ([dD i c],0)
def i_ (i:Int) (r:LC) (c:Cl) (g:LC):LC×Int:=if cS c.neg i then if (eH r).2=0 then eV g (eH r).1 else ([],(eH r).2) else (g,0)
def gM (i:Int) (r h:LC) (c:Cl):LC×Int:=
 if (gZ i r c).2=0 then if (i_ i r c (gZ i r c).1).2=0 then ef h (i_ i r c (gZ i r c).1).1 else ([],(i_ i r c (gZ i r c).1).2) else ([],(gZ i r c).2)
def pr (i:Int):Bool:=decide (0<=i/\i<24)
def lU (f:LC) (i:Int) (r:LC):LC×Int:=if cD f&&cD r&&pr i then ct (gM i r) [] f else ([],2)
theorem apm {i:Int} {r:LC} {c:Cl} (hr:RF r) (h:(gZ i r c).2=0):RF (gZ i r c).1:=by
 unfold gZ at h ⊢
 split
 ·next hh=>rw [if_pos hh] at h;exact oA (kP (nS i c)).2 hr.2 h
 simp_all [kP,nS]
theorem apo {i:Int} {r g:LC} {c:Cl} (hg:RF g) (h:(i_ i r c g).2=0):RF (i_ i r c g).1:=by
 unfold i_ at h ⊢
 split
 ·next hh=>
  rw [if_pos hh] at h
  split
  ·next hn=>rw [if_pos hn] at h;exact oA hg.2 (mR hn).2 h
  grind
 omega
theorem Um {i:Int} {r:LC} (hr:RF r) (h:LC) (c:Cl) (hh:RF h) (h0:(gM i r h c).2=0):RF (gM i r h c).1:=by
 unfold gM at h0 ⊢
 split
 ·next ha=>
  rw [if_pos ha] at h0
  have hA:=apm hr ha
  split
  ·next hb=>rw [if_pos hb] at h0;exact Q8 hh.2 (apo hA hb).2 h0
  grind
 grind
theorem aqO (hk:Fu k) {i:Int} {r h:LC} {c:Cl} (hr:RF r) (hh:RF h) (hc:bQ c) (Y:LC×Int->OS S):DG k h c i r Y=Y (gM i r h c):=by
 have l1:=hr.len;have l2:=hh.len
 have hg:=kP (nS i c)
 simp only [DG,al hk,A7 hk hc.1,A7 hk hc.2,wD hk hc.1,wD hk hc.2,A9 hk hg.2 hr.2 (show [dD i c].length<32768 by simp) (show r.length<32768 by omega),Yf hk hr.2 hr.lt,cH,dX,decide_eq_true_eq,Bool.not_eq_true',decide_eq_false_iff_not]
 have e: ∀ (f:LC×Int->OS S),nA k [Cl.mk (fV c.pos i) (fV c.neg i)] r f=f (eV [dD i c] r):=fun f=>A9 hk hg.2 hr.2 (by simp) (by omega) f
 simp only [e]
 unfold gM gZ i_
 by_cases hp:cS c.pos i=true
 ·simp only [hp,if_true]
  by_cases h1:(eV [dD i c] r).2=0
  ·have hA:RF (eV [dD i c] r).1:=oA hg.2 hr.2 h1
   have l3:=hA.len
   simp only [h1,not_true,if_false,if_true]
   by_cases hn:cS c.neg i=true
   ·simp only [hn,if_true]
    by_cases h2:(eH r).2=0
    ·have hN:=mR h2
     have l4:=hN.len
     simp only [h2,not_true,if_false,if_true]
     rw [A9 hk hA.2 hN.2 (by omega) (by omega)]
     by_cases h3:(eV (eV [dD i c] r).1 (eH r).1).2=0
     ·have hB:=oA hA.2 hN.2 h3
      have l5:=hB.len
      simp only [h3,not_true,if_false,if_true]
      rw [GQ hk hh.2 hB.2 (by omega) (by omega)]
     grind
    grind
   ·simp only [hn,Bool.false_eq_true,if_false,if_true]
    rw [GQ hk hh.2 hA.2 (by omega) (by omega)]
  grind
 ·simp only [hp,Bool.false_eq_true,if_false,if_true]
  by_cases hn:cS c.neg i=true
  ·simp only [hn,if_true]
   by_cases h2:(eH r).2=0
   ·have hN:=mR h2
    have l4:=hN.len
    simp only [h2,not_true,if_false,if_true]
    have e2: ∀ (f:LC×Int->OS S),nA k [Cl.mk (fV c.pos i) (fV c.neg i)] (eH r).1 f=f (eV [dD i c] (eH r).1):=fun f=>A9 hk hg.2 hN.2 (by simp) (by omega) f
    rw [e2]
    by_cases h3:(eV [dD i c] (eH r).1).2=0
    ·have hB:=oA hg.2 hN.2 h3
     have l5:=hB.len
     simp only [h3,not_true,if_false,if_true]
     rw [GQ hk hh.2 hB.2 (by omega) (by omega)]
    grind
   grind
  ·simp only [hn,Bool.false_eq_true,if_false,if_true]
   have:=GQ hk hh.2 hg.2 (by omega) (by simp) Y
   exact this
theorem amb (hk:Fu k) (Y:LC×Int->OS S) {i:Int} {q:LC} (hq:RF q) {l:LC} (hl:aI l) (hlen:l.length<2147483648):
  ∀ (r p:LC) (m:Nat) (h:LC),l=p++r->r.length<m->RF h->uR k Y i q l m h (p.length:Int)=Y (ct (gM i q) h r):=by
 intro r
 induction r with
 |nil=>
  intro p m h e hm hh
  obtain ⟨m,rfl,hm'⟩:=aq hm
  simp only [uR,BT,cV e,ah];rfl
 |cons x r ih=>
  intro p m h e hm hh
  obtain ⟨m,rfl,hm'⟩:=aq hm
  obtain ⟨e1,e2,e3,e4⟩:=aR e (by omega)
  have hx:bQ x:=hl x (by grind)
  simp only [uR,BT,e1,aj,e2,aJ,al hk,aqO hk hq hh hx,cH,e3]
  grind [ah,Um,ct,aj]
theorem aqD (hk:Fu k) (i:Int) (Y:LC×Int->OS S):DD k i Y=Y (if pr i then ([⟨jf 0 i,0⟩],0) else ([],2)):=by
 simp only [DD,al hk,A6 hk u0]
 grind [pr,Ho,I4,ah,I3,aj]
theorem aq9 (hk:Fu k) {f r:LC} {i:Int} (hf:aI f) (hr:aI r) (h1:f.length<2147483648) (h2:r.length<2147483648) (Y:LC×Int->OS S):DF k f i r Y=Y (lU f i r):=by
 simp only [DF,al hk,M0 hk (l:=[f,r]) (by grind) (by simp),aqD hk]
 have e:[f,r].all cD=(cD f&&cD r):=by simp
 unfold lU
 by_cases ha:(cD f&&cD r)=true
 ·rw [e,if_pos ha,ha,gR]
  rw [show ((0:Int)==0)=true from rfl,bY,ah]
  cases hd:pr i with
  |true=>
   rw [if_pos rfl,if_pos rfl]
   rw [show ((0:Int)==0)=true from rfl,bY,ah]
   simp only [yy,Jh,ND]
   have hr':=(jx hr).1 (by grind)
   exact amb hk Y hr' hf h1 f [] k [] rfl (by omega) wz
  |false=>
   rfl
 simp_all [if_neg,aj]
theorem apu (hk:Fu k) (Y:LC×Int->OS S) (rec0:LC->Int->OS S) (f:LC) (i:Int) (r:LC) {h:LC} {v:Int} {g:LC} {e:Int} (hh:RF h) (hg:e=0->RF g):
  vj k Y rec0 f i r h v k g e=if e=0 then if (ef h g).2=0 then rec0 (ef h g).1 (af .i64 (v+1)) else Y ([],(ef h g).2) else Y ([],e):=by
 obtain ⟨q,hq⟩: ∃q,k=q+1:=⟨k-1,by omega⟩
 grind [vj,IH,aj,al,arT,ah]
theorem anh (hk:Fu k) (Y:LC×Int->OS S) {i:Int} {q:LC} (hq:RF q) {l:LC} (hl:aI l) (hlen:l.length<2147483648):
  ∀ (r p:LC) (m:Nat) (h:LC),l=p++r->r.length<m->RF h->pS k Y l i q m h (p.length:Int)=Y (ct (gM i q) h r):=by
 intro r
 induction r with
 |nil=>
  intro p m h e hm hh
  obtain ⟨m,rfl,hm'⟩:=aq hm
  simp only [pS,xv,cV e,ah];rfl
 |cons x r ih=>
  intro p m h e hm hh
  obtain ⟨m,rfl,hm'⟩:=aq hm
  obtain ⟨e1,e2,e3,e4⟩:=aR e (by omega)
  have hx:bQ x:=hl x (by grind)
  have hg:=kP (nS i x)
  have key: ∀ (g:LC) (e:Int),(e=0->RF g)->(gM i q h x=if e=0 then ef h g else ([],e))->vj k Y (pS k Y l i q m) l i q h (p.length:Int) k g e=Y (ct (gM i q) h (x::r)):=by
   intro g e hge hput
   rw [apu hk _ _ _ _ _ hh hge,ct,hput]
   by_cases h0:e=0
   ·rw [if_pos h0,if_pos h0]
    by_cases h1:(ef h g).2=0
    ·rw [if_pos h1,if_pos h1,e3]
     exact ih (p++[x]) m _ e4 hm' (Q8 hh.2 (hge h0).2 h1)
    grind
   grind
  have em: ∀ (f:LC×Int->OS S),nD k [Cl.mk (fV x.pos i) (fV x.neg i)] q f=f (eV [dD i x] q):=fun f=>GT hk hg hq f
  simp only [pS,xv,e1,aj,e2,aJ,al hk,GY hk hx.1,GY hk hx.2,lZ hk hx.1,lZ hk hx.2,em,YE hk hq.2 hq.lt,hq.right,if_true,cH]
  cases hp:cS x.pos i with
  |true=>
   rw [aj]
   by_cases h1:(eV [dD i x] q).2=0
   ·have hA:RF (eV [dD i x] q).1:=oA hg.2 hq.2 h1
    rw [decide_eq_true h1,aj]
    cases hn:cS x.neg i with
    |true=>
     rw [aj]
     by_cases h2:(eH q).2=0
     ·rw [decide_eq_true h2,aj,GT hk hA (mR h2)]
      exact key _ _ (fun h0=>oA hA.2 (mR h2).2 h0) (by grind [gM,gZ,i_])
     grind [ah,gM,gZ,i_]
    |false=>
     grind [ah,gM,gZ,i_]
   grind [ah,gM,gZ]
  |false=>
   rw [ah]
   cases hn:cS x.neg i with
   |true=>
    rw [aj]
    by_cases h2:(eH q).2=0
    ·have em2: ∀ (f:LC×Int->OS S),nD k [Cl.mk (fV x.pos i) (fV x.neg i)] (eH q).1 f=f (eV [dD i x] (eH q).1):=fun f=>GT hk hg (mR h2) f
     rw [decide_eq_true h2,aj,em2]
     exact key _ _ (fun h0=>oA hg.2 (mR h2).2 h0) (by grind [gM,gZ,i_])
    grind [ah,gM,gZ,i_]
   |false=>
    grind [ah,dD,gM,gZ,i_]
theorem ar8 (hk:Fu k) {f r:LC} {i:Int} (hf:aI f) (hr:aI r) (h1:f.length<2147483648) (h2:r.length<2147483648) (Y:LC×Int->OS S):Ei k f i r Y=Y (lU f i r):=by
 simp only [Ei,N7,al hk,kR hk hf h1,kR hk hr h2,bR]
 unfold lU pr
 cases ha:cD f with
 |false=>rfl
 |true=>
  rw [bY,ah]
  cases hb:cD r with
  |false=>rfl
  |true=>
   rw [bY,ah]
   by_cases h3:i<0
   ·grind
   ·by_cases h4:i>=24
    ·grind
    ·rw [if_neg h3,if_neg h4,decide_eq_true (by omega)]
     exact anh hk Y ((jx hr).1 hb) hf h1 f [] k [] rfl (by omega) wz
theorem anU {m n b:Nat}:(it m n b).1<16777216:=by
 have h1:m&&&M24<16777216:=Nat.lt_of_le_of_lt Nat.and_le_right (by decide)
 have h2:kM m n<=m&&&M24:=Nat.and_le_left
 unfold it
 split
 ·omega
 ·split
  ·simp
  ·split
   ·simp
   ·exact Nat.or_lt_two_pow (n:=24) (by omega) (by omega)
theorem RR (s i b:Int):0<=(eF s i b).1/\(eF s i b).1<16777216:=by
 grind [eF,anU]
theorem RQ (c:Cl) (i b:Int):RC (fM c i b).1:=by
 unfold fM
 split
 ·split
  ·split
   ·exact ⟨RR _ _ _,RR _ _ _⟩
   ·exact s_
  ·exact s_
 ·exact s_
def gq (i b:Int) (h:LC) (c:Cl):LC×Int:=(h++[(fM c i b).1],(fM c i b).2)
def bP (f:LC) (i b:Int):LC×Int:=if cD f then if (ct (gq i b) [] f).2=0 then ci (ct (gq i b) [] f).1 else ([],(ct (gq i b) [] f).2) else ([],2)
theorem Ka {i b:Int}: ∀ {r h:LC},aI h->aI (ct (gq i b) h r).1/\(ct (gq i b) h r).1.length<=h.length+r.length:=by
 intro r
 induction r with
 |nil=>intro h hh;exact ⟨hh,by show h.length<=_;omega⟩
 |cons c r ih=>
  intro h hh
  unfold ct
  split
  ·have:=ih (h:=(gq i b h c).1) (iY hh fun d hd=>by simp at hd;subst hd;exact (RQ c i b).ok)
   grind [gq]
  ·exact ⟨fun d hd=>(by cases hd),by simp⟩
theorem al_ (hk:Fu k) (Y:LC×Int->OS S) {i b:Int} (hi:a6 i) (hb:a6 b) {l:LC} (hl:aI l) (hlen:l.length<2147483648):
  ∀ (r p:LC) (m:Nat) (h:LC),l=p++r->r.length<m->h.length+r.length<4294967296->uT k Y i b l m h (p.length:Int)=Y (ct (gq i b) h r):=by
 intro r
 induction r with
 |nil=>
  intro p m h e hm hh
  obtain ⟨m,rfl,hm'⟩:=aq hm
  simp only [uT,BV,cV e,ah];rfl
 |cons x r ih=>
  intro p m h e hm hh
  obtain ⟨m,rfl,hm'⟩:=aq hm
  obtain ⟨e1,e2,e3,e4⟩:=aR e (by omega)
  have hx:bQ x:=hl x (by grind)
  simp only [cM] at hh
  simp only [uT,BV,e1,aj,e2,aJ,al hk,Jg,aq0 hk hx hi hb,cH,e3]
  grind [bn,ah,ct,gq,aj]
theorem wF (hk:Fu k) {f:LC} {i b:Int} (hf:aI f) (hlen:f.length<1073741824) (hi:a6 i) (hb:a6 b) (Y:LC×Int->OS S):nz k f i b Y=Y (bP f i b):=by
 have hlo:=Ka (i:=i) (b:=b) (r:=f) (h:=[]) (fun d hd=>by cases hd)
 simp only [List.length_nil] at hlo
 have hfold: ∀ (g:LC×Int->OS S),DH k f [] i b g=g (ct (gq i b) [] f):=fun g=>by
  simp only [DH,NF]
  exact al_ hk g hi hb hf (by omega) f [] k [] rfl (by omega) (by grind)
 simp only [nz,al hk,M0 hk (l:=[f]) (by grind) (by simp),yy,hfold,oK hk hlo.1 (show _<2147483648 by omega)]
 grind [bP,ah,decide_eq_false,aj]
theorem am3 (hk:Fu k) (Y:LC×Int->OS S) {i b:Int} (hi:a6 i) (hb:a6 b) {l:LC} (hl:aI l) (hlen:l.length<1073741824):
  ∀ (r p:LC) (m:Nat) (h:LC),l=p++r->r.length<m->aI h->h.length+r.length<2147483648->vh k Y l i b m h (p.length:Int)=Y (if (ct (gq i b) h r).2=0 then ci (ct (gq i b) h r).1 else ([],(ct (gq i b) h r).2)):=by
 intro r
 induction r with
 |nil=>
  grind [aq,vh,Cp,ah,al,te,ct]
 |cons x r ih=>
  intro p m h e hm hok hh
  obtain ⟨m,rfl,hm'⟩:=aq hm
  obtain ⟨e1,e2,e3,e4⟩:=aR e (by omega)
  have hx:bQ x:=hl x (by grind)
  simp only [cM] at hh
  simp only [vh,Cp,e1,aj,e2,aJ,al hk,arS hk hx hi hb,cH,e3]
  by_cases h0:(fM x i b).2=0
  ·rw [decide_eq_true h0,bY,ah,bn (by grind),ih (p++[x]) m _ e4 hm' (iY hok fun d hd=>by simp at hd;subst hd;exact (RQ x i b).ok) (by grind),ct,if_pos (show (gq i b h x).2=0 from h0)];rfl
  grind [aj,ct,gq]
theorem wI (hk:Fu k) {f:LC} {i b:Int} (hf:aI f) (hlen:f.length<1073741824) (hi:a6 i) (hb:a6 b) (Y:LC×Int->OS S):nC k f i b Y=Y (bP f i b):=by
 simp only [nC,N4,al hk,kR hk hf (show f.length<2147483648 by omega)]
 unfold bP
 cases hr:cD f with
 |true=>
  rw [bY,ah,if_pos rfl]
  exact am3 hk Y hi hb hf hlen f [] k [] rfl (by omega) (fun d hd=>by cases hd) (by grind)
 |false=>
  rfl
theorem mP {f:LC} {i b:Int} (h:(bP f i b).2=0):RF (bP f i b).1:=by
 unfold bP at h ⊢
 split
 ·next hr=>
  rw [if_pos hr] at h
  split
  ·next h0=>
   rw [if_pos h0] at h
   exact vP (Ka fun d hd=>by cases hd).1 h
  grind
 grind
theorem anN {f:LC} {i b:Int} (h:(bP f i b).2≠0):(bP f i b).1=[]:=by
 grind [bP,RM]
def FP (s:Nat) (f:LC):Nat:=f.foldl (fun s c=>s|||(c.pos.toNat|||c.neg.toNat)) s
def jk (f:LC):Nat:=FP 0 f&&&M24
def lu (f:LC):Int:=((jk f:Nat):Int)
def mc (f:LC) (i:Nat):Bool:=f.any fun c=>c.pos.toNat.testBit i||c.neg.toNat.testBit i
theorem ao7 (i:Nat): ∀ {f:LC} {s:Nat},(FP s f).testBit i=(s.testBit i||mc f i):=by
 intro f
 induction f<;>simp_all [FP,mc,Bool.or_assoc]
theorem EQ (f:LC) (i:Nat):(jk f).testBit i=(mc f i&&decide (i<24)):=by
 grind [jk,lg,ao7]
theorem JE (f:LC):jk f<16777216:=Nat.lt_of_le_of_lt Nat.and_le_right (by decide)
theorem alV (hk:Fu k) (Y:Int->OS S) {l:LC} (hl:aI l) (hlen:l.length<4294967296):
  ∀ (r p:LC) (m:Nat) (s:Nat),l=p++r->r.length<m->s<4294967296->uQ k Y l m (s:Int) (p.length:Int)=Y (((FP s r&&&M24:Nat):Int)):=by
 intro r
 induction r with
 |nil=>
  intro p m s e hm hs
  obtain ⟨m,rfl,hm'⟩:=aq hm
  simp only [uQ,BS,cV e,ah,al hk,A7 hk (U32.of hs)]
  rfl
 |cons x r ih=>
  intro p m s e hm hs
  obtain ⟨m,rfl,hm'⟩:=aq hm
  obtain ⟨e1,e2,e3,e4⟩:=aR e (by omega)
  have hx:bQ x:=hl x (by grind)
  have ho:U32 (ic x.pos x.neg):=LF hx.1 hx.2
  have hq:s|||(x.pos.toNat|||x.neg.toNat)<4294967296:=by
   have h1:=hx.1.1;have h2:=hx.1.2;have h3:=hx.2.1;have h4:=hx.2.2
   have h32:(2:Nat)^32=4294967296:=by decide
   exact Nat.or_lt_two_pow (n:=32) hs (Nat.or_lt_two_pow (n:=32) (by omega) (by omega))
  have es:ic (s:Int) (ic x.pos x.neg)=((s|||(x.pos.toNat|||x.neg.toNat):Nat):Int):=by rfl
  simp only [uQ,BS,e1,aj,e2,aJ,vX hx.1 hx.2,vX (U32.of hs) ho,e3,es]
  exact ih (p++[x]) m _ e4 hm' hq
theorem MY (hk:Fu k) {f:LC} (hf:aI f) (hlen:f.length<4294967296) (Y:Int->OS S):tT k f Y=Y (lu f):=by
 simp only [tT,NC]
 exact alV hk Y hf hlen f [] k 0 rfl (by omega) (by decide)
theorem ake (s:Int) (i:Nat) (hi:i<24):cS s (i:Int)=s.toNat.testBit i:=by
 grind [cS]
theorem amY (hk:Fu k) (Y:Int->OS S) (rec0:List Int->Int->OS S) {l:LC} (hl:aI l) (hlen:l.length<4294967296) (o:List Int) (ho:o.length<=64) (i:Nat) (hi:i<24):
  ∀ (r p:LC) (m:Nat) (b:Bool),l=p++r->r.length<m->rZ k Y rec0 l o (i:Int) m b (p.length:Int)=rec0 (if b||mc r i then o++[(i:Int)] else o) ((i+1:Nat):Int):=by
 intro r
 induction r with
 |nil=>
  grind [aq,rZ,Co,ah,mc,fW,aj,bn]
 |cons x r ih=>
  intro p m b e hm
  obtain ⟨m,rfl,hm'⟩:=aq hm
  obtain ⟨e1,e2,e3,e4⟩:=aR e (by omega)
  have hx:bQ x:=hl x (by grind)
  have eu:mc (x::r) i=((x.pos.toNat.testBit i||x.neg.toNat.testBit i)||mc r i):=by rfl
  simp only [rZ,Co,e1,aj,e2,aJ,al hk,lZ hk hx.1,lZ hk hx.2,ake _ _ hi,e3,eu]
  cases b<;>grind [aj,ah]
def ry (f:LC) (n:Nat):List Nat:=(dB n).filter (mc f)
theorem amX (hk:Fu k) (Y:Int->OS S) {f:LC} (hf:aI f) (hlen:f.length<1073741824): ∀ (d i m:Nat),i+d=24->d<m->pQ k Y f m (ints (ry f i)) (i:Int)=Y ((dR (ry f 24):Nat):Int):=by
 have hl: ∀n,n<=24->(ry f n).length<=24:=fun n hn=>by
  grind [ry]
 intro d
 induction d with
 |zero=>
  intro i m e hm
  obtain ⟨m,rfl,hm'⟩:=aq hm
  have:i=24:=by omega
  subst this
  simp only [pQ,xt,bR,al hk]
  rw [if_neg (by omega),wM hk _ (by grind) fun x hx=>by
   have:=(List.mem_filter.1 hx).1;grind]
 |succ d ih=>
  intro i m e hm
  obtain ⟨m,rfl,hm'⟩:=aq hm
  have hk':4294967296<=k:=hk
  have hli:=hl i (by omega)
  simp only [pQ,xt,bR]
  rw [if_pos (by omega)]
  have:=amY hk Y (pQ k Y f m) hf (by omega) (ints (ry f i)) (by rw [iq];omega) i (by omega) f [] k false rfl (by omega)
  simp only [List.length_nil] at this
  rw [show (0:Int)=((0:Nat):Int) from rfl,this,Bool.false_or,<-ih (i+1) m (by omega) (by omega)]
  grind [ry,List.range_succ,ints]
theorem Yz (hk:Fu k) {f:LC} (hf:aI f) (hlen:f.length<1073741824) (Y:Int->OS S):yL k f Y=Y (lu f):=by
 simp only [yL,N3]
 have:=amX hk Y hf hlen 24 0 k (by omega) (by omega)
 refine ak this ?_
 congr 2
 apply g6
 grind [th,ry,List.nodup_range,EQ]
def eo (f:LC) (d:Int):Bool:=decide (∀i∈c7 (jk f),(i:Int)<d)
theorem YN (hk:Fu k) {f:LC} {d:Int} (hf:aI f) (hlen:f.length<4294967296) (hd:0<=d) (hd':d<9223372036854775808) (Y:Bool->OS S):pq k f d Y=Y (eo f d):=by
 simp only [pq,bR,al hk,MY hk hf hlen]
 by_cases h:d>=24
 ·grind [eo,mem_bitsN]
 ·rw [if_neg h]
  obtain ⟨n,rfl⟩: ∃n:Nat,d=n:=⟨d.toNat,by omega⟩
  rw [md n (by omega),Da (by omega),gb,Nat.min_eq_left (by omega)]
  congr 1
  rw [lu,J7,eo,Bool.eq_iff_iff]
  simp only [beq_iff_eq,decide_eq_true_eq]
  have hdiv:(jk f/2^n=0)↔jk f<2^n:=Nat.div_eq_zero_iff_lt (Nat.two_pow_pos n)
  constructor
  ·grind [mem_bitsN,Nat.lt_of_lt_of_le,jH,Nat.testBit_lt_two_pow]
  ·intro h0
   have:jk f<2^n:=by
    apply Nat.lt_pow_two_of_testBit
    grind [mem_bitsN,oX,JE]
   omega
theorem afV (m:Nat):(c7 m).Pairwise (· < ·):=List.Pairwise.filter _ List.pairwise_lt_range
theorem Ym (hk:Fu k) {f:LC} {d:Int} (hf:aI f) (hlen:f.length<1073741824) (Y:Bool->OS S):yO k f d Y=Y (eo f d):=by
 have hlt:=JE f
 simp only [yO,al hk,Yz hk hf hlen,lu,wL hk (show jk f<4294967296 by omega),iq]
 have hs:=afV (jk f)
 have hl:=kl (jk f)
 unfold eo
 generalize c7 (jk f)=l at hs hl
 by_cases h0:l=[]
 ·simp_all [aj]
 ·have hpos:0<l.length:=List.length_pos_iff.2 h0
  have hb:((l.length:Int)==0)=false:=by grind
  have e1:(l.length:Int)-1=((l.length-1:Nat):Int):=by omega
  rw [hb,ah,fW (by omega) (by omega),e1,zA,Kq,d4 (by omega)]
  simp only [Option.map_some,aJ]
  congr 1
  rw [Bool.eq_iff_iff,decide_eq_true_eq,decide_eq_true_eq]
  constructor
  ·intro h i hi
   obtain ⟨j,hj,rfl⟩:=List.getElem_of_mem hi
   have:l[j]<=l[l.length-1]:=by
    grind [List.pairwise_iff_getElem]
   grind
  grind
def oY (c:Cl):Bool:= !c6 c
def fI (l:LC):LC:=l.filter oY
def ep (f:LC):Bool:=cD f&&f.all fun c=> !c6 c
def RFa (f:LC):Prop:=RF f/\ ∀c∈f,c6 c=false
theorem ta {f:LC} (h:aI f):ep f=true↔RFa f:=by
 grind [ep,RFa,jx]
theorem RFa.right {f:LC} (h:RFa f):ep f=true:=(ta h.1.2).2 h
theorem Pr {l:LC} (h: ∀c∈l,c6 c=false):fI l=l:=List.filter_eq_self.2 fun c hc=>by grind [oY]
theorem IX {l:LC} {c:Cl} (h:c∈fI l):c∈l/\c6 c=false:=by
 have:=List.mem_filter.1 h
 grind [oY]
theorem Pt {l:LC} (h:aI l):aI (fI l):=fun c hc=>h c (IX hc).1
theorem RN {l:LC} (hl:aI l) (hc: ∀c∈l,c6 c=false) (h:(ci l).2=0):RFa (ci l).1:=by
 refine ⟨vP hl h,fun c hcm=> ?_⟩
 grind [ci,mem_mins]
theorem MG:RFa []:=⟨wz,fun c hc=>by cases hc⟩
theorem GJ {c:Cl} (h:RC c) (h':c6 c=false):RFa [c]:=⟨kP h,fun d hd=>by grind⟩
theorem Ps (l:LC):(fI l).length<=l.length:=List.length_filter_le _ _
theorem alK (hk:Fu k) (Y:Int->OS S) {l:LC} (hl:aI l) (hlen:l.length<2147483648):
  ∀ (r p:LC) (m:Nat),l=p++r->r.length<m-> ∃v:Int,decide (v>=0)=r.any c6/\vG k Y l m (p.length:Int)=Y v:=by
 intro r
 induction r with
 |nil=>
  intro p m h hm
  obtain ⟨m,rfl,hm'⟩:=aq hm
  exact ⟨-1,rfl,by grind [vG,CW,ah]⟩
 |cons x r ih=>
  intro p m h hm
  obtain ⟨m,rfl,hm'⟩:=aq hm
  obtain ⟨e1,e2,e3,e4⟩:=aR h (by omega)
  have hx:bQ x:=hl x (by grind)
  obtain ⟨v,hv,hr⟩:=ih (p++[x]) m e4 hm'
  grind [vG,CW,aj,al,X8,ah]
theorem MZ (hk:Fu k) {f:LC} (hf:aI f) (hlen:f.length<2147483648) (Y:Bool->OS S):tQ k f Y=Y (ep f):=by
 obtain ⟨v,hv,hr⟩:=alK hk (fun r1:Int=>(fun r2:Bool=>Y (!r2)) (decide (r1>=0))) hf hlen f [] k rfl (by omega)
 simp only [tQ,al hk,wG hk hf hlen,Jv,Jx,OI]
 grind [ep,cD,aj,ah]
theorem amH (hk:Fu k) (Y:Bool->OS S) {l:LC} (hl: ∀c∈l,RC c) (hlen:l.length<2147483648):
  ∀ (r p:LC) (m:Nat),l=p++r->r.length<m->vl k Y l m (p.length:Int)=Y (r.all fun c=> !c6 c):=by
 intro r
 induction r with
 |nil=>
  grind [aq,vl,Cw,ah]
 |cons x r ih=>
  intro p m h hm
  obtain ⟨m,rfl,hm'⟩:=aq hm
  obtain ⟨e1,e2,e3,e4⟩:=aR h (by omega)
  have hx:RC x:=hl x (by grind)
  grind [vl,Cw,aj,al,Yu,ah]
theorem tf (hk:Fu k) {f:LC} (hf:aI f) (hlen:f.length<2147483648) (Y:Bool->OS S):mt k f Y=Y (ep f):=by
 simp only [mt,Oa,al hk,kR hk hf hlen]
 unfold ep
 cases hr:cD f with
 |true=>
  have h:=(jx hf).1 hr
  rw [bY,ah,gR]
  exact amH hk Y (fun c hc=>h.rc hc) hlen f [] k rfl (by omega)
 |false=>rfl
def kL (l:LC):LC×Int:=ci (fI l)
def js (f:LC):LC×Int:=if cD f then kL f else ([],2)
def jW (f:LC):LC×Int:=if cD f then if (eH f).2=0 then kL (eH f).1 else ([],(eH f).2) else ([],2)
theorem KQ {l:LC} (hl:aI l) (h:(kL l).2=0):RFa (kL l).1:=RN (Pt hl) (fun c hc=>(IX hc).2) h
theorem Lx {f:LC} (h:(js f).2=0) (hf:aI f):RFa (js f).1:=by
 grind [js,KQ]
theorem Ly {f:LC} (h:(jW f).2=0) (hf:aI f):RFa (jW f).1:=by
 unfold jW at h ⊢
 split
 ·next hr=>
  rw [if_pos hr] at h
  split
  ·next h0=>rw [if_pos h0] at h;exact KQ (mR h0).2 h
  grind
 grind
theorem Yd (hk:Fu k) {c:Cl} (hc:bQ c) (Y:Cl×Bool->OS S):yx k c Y=Y (c,oY c):=by
 simp only [yx,al hk,X8 hk hc];rfl
theorem amj (hk:Fu k) (Y:LC->OS S) {l:LC} (hl:aI l) (hlen:l.length<2147483648):
  ∀ (r p:LC) (m:Nat) (o:LC),l=p++r->r.length<m->o.length+r.length<4294967296->uO k Y l m (p.length:Int) o=Y (o++fI r):=by
 intro r
 induction r with
 |nil=>
  grind [aq,uO,BQ,ah,fI]
 |cons x r ih=>
  intro p m o h hm ho
  obtain ⟨m,rfl,hm'⟩:=aq hm
  obtain ⟨e1,e2,e3,e4⟩:=aR h (by omega)
  have hx:bQ x:=hl x (by grind)
  simp only [cM] at ho
  simp only [uO,BQ,e1,aj,e2,aJ,al hk,Yd hk hx,e3]
  grind [aj,bn,fI,ah]
theorem arm (hk:Fu k) {l:LC} (hl:aI l) (hlen:l.length<2147483648) (Y:LC->OS S):DB k l Y=Y (fI l):=by
 simp only [DB,Nz]
 have:=amj hk Y hl hlen l [] k [] rfl (by omega) (by grind)
 grind
theorem Ye (hk:Fu k) {f:LC} (hf:aI f) (hlen:f.length<2147483648) (Y:LC×Int->OS S):yw k f Y=Y (js f):=by
 have:=Ps f
 simp only [yw,al hk,wG hk hf hlen,arm hk hf hlen,oK hk (Pt hf) (show (fI f).length<2147483648 by omega)]
 unfold js
 cases cD f with
 |true=>rfl
 |false=>rfl
theorem ara (hk:Fu k) {f:LC} (hf:aI f) (hlen:f.length<2147483648) (Y:LC×Int->OS S):Dw k f Y=Y (jW f):=by
 simp only [Dw,al hk,aq8 hk hf hlen,cH]
 unfold jW
 cases cD f with
 |true=>
  rw [if_pos rfl,if_pos rfl]
  by_cases h0:(eH f).2=0
  ·have hr:=mR h0
   rw [decide_eq_true h0,bY,ah,if_pos h0,Ye hk hr.2 hr.lt]
   unfold js
   rw [if_pos hr.right]
  grind [aj]
 |false=>
  rfl
theorem amI (hk:Fu k) (Y:LC×Int->OS S) {l:LC} (hl: ∀c∈l,RC c) (hlen:l.length<1073741824):
  ∀ (r p:LC) (m:Nat) (o:LC),l=p++r->r.length<m->aI o->o.length+r.length<2147483648->vm k Y l m o (p.length:Int)=Y (ci (o++fI r)):=by
 intro r
 induction r with
 |nil=>
  grind [aq,vm,Cx,ah,fI,al,te]
 |cons x r ih=>
  intro p m o h hm hok ho
  obtain ⟨m,rfl,hm'⟩:=aq hm
  obtain ⟨e1,e2,e3,e4⟩:=aR h (by omega)
  have hx:RC x:=hl x (by grind)
  simp only [cM] at ho
  simp only [vm,Cx,e1,aj,e2,aJ,al hk,Yu hk hx,e3]
  cases hb:c6 x with
  |false=>
   rw [ca,aj,bn (by grind),ih (p++[x]) m (o++[x]) e4 hm' (iY hok fun c hc=>by simp at hc;subst hc;exact hx.ok) (by grind)]
   grind [fI,oY]
  |true=>
   grind [ah,fI,oY]
theorem GU (hk:Fu k) {l:LC} (hl: ∀c∈l,RC c) (hlen:l.length<1073741824) (Y:LC×Int->OS S):rm k l Y=Y (kL l):=by
 simp only [rm,Oc]
 have:=amI hk Y hl hlen l [] k [] rfl (by omega) (fun c hc=>by cases hc) (by grind)
 grind [kL]
theorem arW (hk:Fu k) {f:LC} (hf:aI f) (hlen:f.length<1073741824) (Y:LC×Int->OS S):Ek k f Y=Y (js f):=by
 simp only [Ek,al hk,kR hk hf (show f.length<2147483648 by omega)]
 unfold js
 cases hr:cD f with
 |true=>
  have h:=(jx hf).1 hr
  rw [bY,ah,if_pos rfl,GU hk (fun c hc=>h.rc hc) hlen]
 |false=>rfl
theorem arX (hk:Fu k) {f:LC} (hf:aI f) (hlen:f.length<2147483648) (Y:LC×Int->OS S):yM k f Y=Y (jW f):=by
 simp only [yM,al hk,YE hk hf hlen,cH]
 unfold jW
 cases cD f with
 |true=>
  rw [if_pos rfl,if_pos rfl]
  by_cases h0:(eH f).2=0
  ·have hr:=mR h0
   rw [decide_eq_true h0,bY,ah,if_pos h0,GU hk (fun c hc=>hr.rc hc) (by have:=hr.len;omega)]
  grind [aj]
 |false=>
  rfl
def iv (f g:LC):LC×Int:=kL (meets f g)
def Ks (f g:LC):LC×Int:=if ep f&&ep g then ef f g else ([],2)
theorem arc (hk:Fu k) {f g:LC} (hf:aI f) (hg:aI g) (h1:f.length<1073741824) (h2:g.length<1073741824) (Y:LC×Int->OS S):Dz k f g Y=Y (ef f g):=by
 simp only [Dz,al hk,dG]
 rw [bn (by grind),bn (by omega),oK hk (iY hf hg) (by grind)]
 rfl
theorem akE {f g:LC} (hf: ∀c∈f,c6 c=false) (hg: ∀c∈g,c6 c=false):kL (f++g)=ef f g:=by
 grind [kL,ef,Pr]
theorem Fs {f g:LC} (hf:RFa f) (hg:RFa g) (h:(ef f g).2=0):RFa (ef f g).1:=
 RN (iY hf.1.2 hg.1.2) (fun c hc=>by
  rcases eL.1 hc with h|h
  ·exact hf.2 c h
  ·exact hg.2 c h) h
theorem arU (hk:Fu k) {f g:LC} (hf:aI f) (hg:aI g) (h1:f.length<268435456) (h2:g.length<268435456) (Y:LC×Int->OS S):kx k f g Y=Y (Ks f g):=by
 simp only [kx,al hk,tf hk hf (show f.length<2147483648 by omega),tf hk hg (show g.length<2147483648 by omega),dG]
 unfold Ks
 cases hr:ep f with
 |true=>
  rw [bY,ah,gR]
  cases hr2:ep g with
  |true=>
   have hf':=(ta hf).1 hr
   have hg':=(ta hg).1 hr2
   rw [bY,ah,if_pos rfl,bn (by grind),bn (by omega),GU hk (fun c hc=>by
    rcases eL.1 hc with h|h
    ·exact hf'.1.rc h
    ·exact hg'.1.rc h) (by grind),akE hf'.2 hg'.2]
  |false=>rfl
 |false=>rfl
theorem aq_ (hk:Fu k) {b c:Cl} (hb:bQ b) (hc:bQ c) (Y:Cl×Bool->OS S):DC k b c Y=Y (gY c b,oY (gY c b)):=by
 simp_all [DC,al,MW,Yd,FK]
theorem amk (hk:Fu k) (Y:LC->OS S) {c:Cl} (hc:bQ c) {l:LC} (hl:aI l) (hlen:l.length<2147483648):
  ∀ (r p:LC) (m:Nat) (o:LC),l=p++r->r.length<m->o.length+r.length<4294967296->uN k Y c l m (p.length:Int) o=Y (o++fI (r.map (gY c))):=by
 intro r
 induction r with
 |nil=>
  intro p m o h hm ho
  obtain ⟨m,rfl,hm'⟩:=aq hm
  grind [uN,BP,ah,fI]
 |cons x r ih=>
  intro p m o h hm ho
  obtain ⟨m,rfl,hm'⟩:=aq hm
  obtain ⟨e1,e2,e3,e4⟩:=aR h (by omega)
  have hx:bQ x:=hl x (by grind)
  simp only [cM] at ho
  simp only [uN,BP,e1,aj,e2,aJ,al hk,aq_ hk hx hc,e3]
  cases hb:oY (gY c x)<;>grind [aj,bn,fI,ah]
theorem arn (hk:Fu k) {c:Cl} (hc:bQ c) {l:LC} (hl:aI l) (hlen:l.length<2147483648) (Y:LC->OS S):DA k l c Y=Y (fI (l.map (gY c))):=by
 simp only [DA,Ny]
 have:=amk hk Y hc hl hlen l [] k [] rfl (by omega) (by grind)
 grind
theorem al7 (hk:Fu k) (Y:LC×Int->OS S) {g f:LC} (hf:aI f) (hg:aI g) (hlf:f.length<32768) (hlg:g.length<32768):
  ∀ (r p:LC) (m:Nat) (o:LC),f=p++r->r.length<m->aI o->o.length+r.length*g.length<1073741825->uP k Y g f m (p.length:Int) o=Y (ci (o++fI (meets r g))):=by
 intro r
 induction r with
 |nil=>
  intro p m o h hm hok ho
  obtain ⟨m,rfl,hm'⟩:=aq hm
  grind [uP,BR,ah,al,oK,meets,fI]
 |cons x r ih=>
  intro p m o h hm hok ho
  obtain ⟨m,rfl,hm'⟩:=aq hm
  obtain ⟨e1,e2,e3,e4⟩:=aR h (by omega)
  have hx:bQ x:=hf x (by grind)
  have hmul:(x::r).length*g.length=r.length*g.length+g.length:=by grind
  rw [hmul] at ho
  have hcl:=Ps (g.map (gY x))
  rw [List.length_map] at hcl
  simp only [uP,BR,e1,aj,e2,aJ,al hk,arn hk hx hg (show g.length<2147483648 by omega),e3]
  rw [bn (by omega),ih (p++[x]) m _ e4 hm' (iY hok fun c hc=>by
   obtain ⟨b,hb,rfl⟩:=dS.1 (IX hc).1
   exact FK hx (hg b hb)) (by grind)]
  grind [fI,meets]
theorem ard (hk:Fu k) {f g:LC} (hf:aI f) (hg:aI g) (h1:f.length<32768) (h2:g.length<32768) (Y:LC×Int->OS S):tR k f g Y=Y (iv f g):=by
 simp only [tR,NA]
 have hb:f.length*g.length<1073741824:=Nat.lt_of_le_of_lt (Nat.mul_le_mul (Nat.le_of_lt_succ h1) (Nat.le_of_lt_succ h2)) (by decide)
 have:=al7 hk Y hf hg h1 h2 f [] k [] rfl (by omega) (fun c hc=>by cases hc) (by grind)
 grind [iv,kL]
theorem amK (hk:Fu k) (Y:LC×Int->OS S) (rec0:LC->Int->OS S) {x:Cl} (hx:RC x) {g f:LC} {v:Int} (hfx:ai f v=some x) (hg: ∀c∈g,RC c) (hlen:g.length<65536):
  ∀ (r p:LC) (m:Nat) (o:LC),g=p++r->r.length<m->o.length+r.length<1099511627776->sa k Y rec0 f g v m o (p.length:Int)=rec0 (o++r.map (gY x)) (af .i64 (v+1)):=by
 intro r
 induction r with
 |nil=>
  intro p m o h hm ho
  obtain ⟨m,rfl,hm'⟩:=aq hm
  grind [sa,Cu,ah]
 |cons y r ih=>
  intro p m o h hm ho
  obtain ⟨m,rfl,hm'⟩:=aq hm
  obtain ⟨e1,e2,e3,e4⟩:=aR h (by omega)
  have hy:RC y:=hg y (by grind)
  simp only [cM] at ho
  simp only [sa,Cu,e1,aj,e2,hfx,aJ,al hk,Yv hk hx hy,e3]
  grind [bn]
theorem amJ (hk:Fu k) (Y:LC×Int->OS S) {g f:LC} (hf: ∀c∈f,RC c) (hg: ∀c∈g,RC c) (hlf:f.length<32768) (hlg:g.length<32768):
  ∀ (r p:LC) (m:Nat) (o:LC),f=p++r->r.length<m->(∀c∈o,RC c)->o.length+r.length*g.length<1073741824->pT k Y f g m o (p.length:Int)=Y (kL (o++meets r g)):=by
 intro r
 induction r with
 |nil=>
  grind [aq,pT,xw,ah,al,GU,meets]
 |cons x r ih=>
  intro p m o h hm hok ho
  obtain ⟨m,rfl,hm'⟩:=aq hm
  obtain ⟨e1,e2,e3,e4⟩:=aR h (by omega)
  have hx:RC x:=hf x (by grind)
  have hmul:(x::r).length*g.length=r.length*g.length+g.length:=by grind
  rw [hmul] at ho
  have hk':4294967296<=k:=hk
  simp only [pT,xw,e1,aj]
  have:=amK hk Y (pT k Y f g m) hx e2 hg (by omega) g [] k o rfl (by omega) (by omega)
  grind [TR,meets]
theorem arV (hk:Fu k) {f g:LC} (hf:RFa f) (hg:RFa g) (Y:LC×Int->OS S):pi k f g Y=Y (iv f g):=by
 have l1:=hf.1.len;have l2:=hg.1.len
 simp only [pi,N9,al hk,tf hk hf.1.2 hf.1.lt,tf hk hg.1.2 hg.1.lt,hf.right,hg.right,bY,ah]
 have hb:f.length*g.length<=64*64:=Nat.mul_le_mul l1 l2
 have:=amJ hk Y (fun c hc=>hf.1.rc hc) (fun c hc=>hg.1.rc hc) (by omega) (by omega) f [] k [] rfl (by omega) (fun c hc=>by cases hc) (by grind)
 grind [iv]
theorem As {f g:LC} (hf:aI f) (hg:aI g) (h:(iv f g).2=0):RFa (iv f g).1:=KQ (TS hf hg) h
theorem akf {c:Cl} {i:Int} (h:c6 c=false) (hp:cS c.pos i=true):cS c.neg i=false:=by
 cases hn:cS c.neg i with
 |false=>rfl
 |true=>
  exfalso
  unfold cS at hp hn
  rw [aZ] at hp hn
  unfold c6 at h
  rw [Bool.not_eq_false',decide_eq_true_eq] at h
  have:(c.pos.toNat&&&c.neg.toNat).testBit i.toNat=true:=by grind
  grind
theorem Zy {s i:Int} {j:Nat} (h:(fV s i).toNat.testBit j=true):s.toNat.testBit j=true:=by
 grind [fV,gb,qb]
theorem agh {c:Cl}:c6 c=false↔ ∀j,¬ (c.pos.toNat.testBit j=true/\c.neg.toNat.testBit j=true):=by
 unfold c6
 rw [Bool.not_eq_false',decide_eq_true_eq]
 constructor
 ·intro h j ⟨h1,h2⟩
  have:(c.pos.toNat&&&c.neg.toNat).testBit j=true:=by grind
  grind
 ·intro h
  apply g6
  grind
theorem Fk {c:Cl} {i:Int} (h:c6 c=false):c6 (dD i c)=false:=by
 rw [agh] at h ⊢
 exact fun j ⟨h1,h2⟩=>h j ⟨Zy h1,Zy h2⟩
def ie (i:Int) (c:Cl) (h:LC) (q:LC×Int):LC×Int:=
 if q.2=0 then if (iv [dD i c] q.1).2=0 then ef h (iv [dD i c] q.1).1 else ([],(iv [dD i c] q.1).2) else ([],q.2)
def dW (i:Int) (r h:LC) (c:Cl):LC×Int:=
 if cS c.pos i then ie i c h (js r) else if cS c.neg i then ie i c h (jW r) else ef h [dD i c]
def lS (f:LC) (i:Int) (r:LC):LC×Int:=if ep f&&cD r&&pr i then ct (dW i r) [] f else ([],2)
theorem Un {i:Int} {c:Cl} {h:LC} {q:LC×Int} (hh:RFa h) (hq:q.2=0->RFa q.1) (h0:(ie i c h q).2=0):RFa (ie i c h q).1:=by
 unfold ie at h0 ⊢
 split
 ·next h1=>
  rw [if_pos h1] at h0
  split
  ·next h2=>rw [if_pos h2] at h0;exact Fs hh (As (kP (nS i c)).2 (hq h1).1.2 h2) h0
  grind
 grind
theorem apq {i:Int} {r h:LC} {c:Cl} (hr:RF r) (hh:RFa h) (hc:c6 c=false) (h0:(dW i r h c).2=0):RFa (dW i r h c).1:=by
 unfold dW at h0 ⊢
 split
 ·next h1=>rw [if_pos h1] at h0;exact Un hh (fun h=>Lx h hr.2) h0
 ·next h1=>
  rw [if_neg h1] at h0
  split
  ·next h2=>rw [if_pos h2] at h0;exact Un hh (fun h=>Ly h hr.2) h0
  grind [Fs,GJ,nS,Fk]
theorem ajY {i:Int} {r:LC} (hr:RF r): ∀ {l h:LC},(∀c∈l,c6 c=false)->RFa h->(ct (dW i r) h l).2=0->RFa (ct (dW i r) h l).1:=by
 intro l
 induction l<;>grind [ct,apq]
theorem apt {f r:LC} {i:Int} (hf:aI f) (hr:aI r) (h:(lS f i r).2=0):RFa (lS f i r).1:=by
 unfold lS at h ⊢
 split
 ·next hc=>
  rw [if_pos hc] at h
  simp only [aZ] at hc
  exact ajY ((jx hr).1 hc.1.2) ((ta hf).1 hc.1.1).2 MG h
 grind
theorem faJ (hk:Fu k) (Y:LC×Int->OS S) (rec0:Int->LC->OS S) (i:Int) (r f:LC) {h:LC} {v:Int} {g:LC} {e:Int} (hh:RF h) (hg:e=0->RF g):
  uM k Y rec0 i r f v h k g e=if e=0 then if (ef h g).2=0 then rec0 (af .i64 (v+1)) (ef h g).1 else Y ([],(ef h g).2) else Y ([],e):=by
 obtain ⟨q,hq⟩: ∃q,k=q+1:=⟨k-1,by omega⟩
 have: ∀j,j=q+1->uM k Y rec0 i r f v h j g e=BO k Y i r f v h rec0 g e:=by rintro j rfl;rfl
 rw [this k hq]
 simp only [BO,cH]
 by_cases h0:e=0
 ·have l1:=hh.len;have l2:=(hg h0).len
  rw [decide_eq_true h0,aj,if_pos h0,al hk,arc hk hh.2 (hg h0).2 (by omega) (by omega)]
  grind [ah,aj]
 grind [ah,aj]
theorem al8 (hk:Fu k) (Y:LC×Int->OS S) {i:Int} {q:LC} (hq:RF q) {l:LC} (hl:aI l) (hc: ∀c∈l,c6 c=false) (hlen:l.length<2147483648):
  ∀ (r p:LC) (m:Nat) (h:LC),l=p++r->r.length<m->RFa h->pN k Y i q l m (p.length:Int) h=Y (ct (dW i q) h r):=by
 intro r
 induction r with
 |nil=>
  intro p m h e hm hh
  obtain ⟨m,rfl,hm'⟩:=aq hm
  simp only [pN,xd,cV e,ah];rfl
 |cons x r ih=>
  intro p m h e hm hh
  obtain ⟨m,rfl,hm'⟩:=aq hm
  obtain ⟨e1,e2,e3,e4⟩:=aR e (by omega)
  have hx:bQ x:=hl x (by grind)
  have hxc:c6 x=false:=hc x (by grind)
  have hg:=GJ (nS i x) (Fk hxc)
  have key: ∀ (g:LC) (e:Int),(e=0->RFa g)->(dW i q h x=if e=0 then ef h g else ([],e))->uM k Y (pN k Y i q l m) i q l (p.length:Int) h k g e=Y (ct (dW i q) h (x::r)):=by
   intro g e hge hput
   rw [faJ hk _ _ _ _ _ hh.1 (fun h=>(hge h).1),ct,hput]
   grind [Fs]
  have em: ∀ (s:LC),RF s-> ∀ (f:LC×Int->OS S),tR k [Cl.mk (fV x.pos i) (fV x.neg i)] s f=f (iv [dD i x] s):=fun s hs f=>ard hk hg.1.2 hs.2 (by simp) (by have:=hs.len;omega) f
  simp only [pN,xd,e1,aj,e2,aJ,al hk,A7 hk hx.1,A7 hk hx.2,wD hk hx.1,wD hk hx.2,Ye hk hq.2 hq.lt,ara hk hq.2 hq.lt,cH]
  cases hp:cS x.pos i with
  |true=>
   rw [aj]
   by_cases h1:(js q).2=0
   ·have ho:=Lx h1 hq.2
    rw [decide_eq_true h1,aj,em _ ho.1]
    exact key _ _ (fun h0=>As hg.1.2 ho.1.2 h0) (by grind [dW,ie])
   grind [ah,dW,ie]
  |false=>
   rw [ah]
   cases hn:cS x.neg i with
   |true=>
    rw [aj]
    by_cases h1:(jW q).2=0
    ·have ho:=Ly h1 hq.2
     rw [decide_eq_true h1,aj,em _ ho.1]
     exact key _ _ (fun h0=>As hg.1.2 ho.1.2 h0) (by grind [dW,ie])
    grind [ah,dW,ie]
   |false=>
    grind [ah,dD,dW]
theorem arb (hk:Fu k) {f r:LC} {i:Int} (hf:aI f) (hr:aI r) (h1:f.length<2147483648) (h2:r.length<2147483648) (Y:LC×Int->OS S):Dx k f i r Y=Y (lS f i r):=by
 simp only [Dx,Nx,al hk,MZ hk hf h1,aq5 hk,wG hk hr h2]
 unfold lS pr
 cases ha:ep f with
 |false=>rfl
 |true=>
  rw [bY,ah]
  by_cases hd:0<=i/\i<24
  ·rw [decide_eq_true hd,bY,ah]
   cases hb:cD r with
   |false=>rfl
   |true=>
    rw [bY,ah]
    exact al8 hk Y ((jx hr).1 hb) hf ((ta hf).1 ha).2 h1 f [] k [] rfl (by omega) MG
  grind [aj]
theorem aod {i:Int} {c:Cl} (h:c6 c=false):iv [dD i c] [⟨0,0⟩]=([dD i c],0):=by
 have e:meets [dD i c] [⟨0,0⟩]=[dD i c]:=by
  grind [dD,O2,gY,ic,Int.toNat_of_nonneg,meets]
 unfold iv kL
 rw [e,Pr fun d hd=>by grind [Fk]]
 exact (kP (nS i c)).1
theorem amL (hk:Fu k) (Y:LC×Int->OS S) {i:Int} {q:LC} (hq:RF q) {l:LC} (hl:aI l) (hc: ∀c∈l,c6 c=false) (hlen:l.length<2147483648):
  ∀ (r p:LC) (m:Nat) (h:LC),l=p++r->r.length<m->RFa h->sb k Y l i q m h (p.length:Int)=Y (ct (dW i q) h r):=by
 intro r
 induction r with
 |nil=>
  intro p m h e hm hh
  obtain ⟨m,rfl,hm'⟩:=aq hm
  simp only [sb,Cv,cV e,ah];rfl
 |cons x r ih=>
  intro p m h e hm hh
  obtain ⟨m,rfl,hm'⟩:=aq hm
  obtain ⟨e1,e2,e3,e4⟩:=aR e (by omega)
  have hx:bQ x:=hl x (by grind)
  have hxc:c6 x=false:=hc x (by grind)
  have hg:=GJ (nS i x) (Fk hxc)
  have lh:=hh.1.len
  have em: ∀ (s:LC),RFa s-> ∀ (f:LC×Int->OS S),pi k [Cl.mk (fV x.pos i) (fV x.neg i)] s f=f (iv [dD i x] s):=fun s hs f=>arV hk hg hs f
  have ej: ∀ (s:LC),RFa s-> ∀ (f:LC×Int->OS S),kx k h s f=f (ef h s):=fun s hs f=>by
   have ls:=hs.1.len
   rw [arU hk hh.1.2 hs.1.2 (by omega) (by omega)]
   unfold Ks
   rw [hh.right,hs.right];rfl
  have key: ∀ (g:LC),RFa g->dW i q h x=ef h g->(kx k h g fun r10=>ac (!decide (r10.2=0)) (Y ([],r10.2)) (sb k Y l i q m r10.1 ((p++[x]).length:Int)))=Y (ct (dW i q) h (x::r)):=by
   grind [ct,ah,Fs,aj]
  have bad: ∀ (e:Int),e≠0->dW i q h x=([],e)->Y ([],e)=Y (ct (dW i q) h (x::r)):=by
   grind [ct]
  simp only [sb,Cv,e1,aj,e2,aJ,al hk,GY hk hx.1,GY hk hx.2,lZ hk hx.1,lZ hk hx.2,arW hk hq.2 (show q.length<1073741824 by have:=hq.len;omega),arX hk hq.2 hq.lt,cH,e3]
  cases hp:cS x.pos i with
  |true=>
   rw [aj,akf hxc hp,ah]
   by_cases h1:(js q).2=0
   ·have ho:=Lx h1 hq.2
    rw [decide_eq_true h1,aj,em _ ho]
    by_cases h2:(iv [dD i x] (js q).1).2=0
    ·rw [decide_eq_true h2,aj]
     exact key _ (As hg.1.2 ho.1.2 h2) (by grind [dW,ie])
    grind [ah,aj,dW,ie]
   grind [ah,aj,dW,ie]
  |false=>
   rw [ah]
   cases hn:cS x.neg i with
   |true=>
    rw [aj]
    by_cases h1:(jW q).2=0
    ·have ho:=Ly h1 hq.2
     rw [decide_eq_true h1,aj,em _ ho]
     by_cases h2:(iv [dD i x] (jW q).1).2=0
     ·rw [decide_eq_true h2,aj]
      exact key _ (As hg.1.2 ho.1.2 h2) (by grind [dW,ie])
     grind [ah,aj,dW,ie]
    grind [ah,aj,dW,ie]
   |false=>
    rw [ah,em _ (GJ s_ (by decide)),aod hxc]
    grind [aj,dW]
theorem arY (hk:Fu k) {f r:LC} {i:Int} (hf:aI f) (hr:aI r) (h1:f.length<2147483648) (h2:r.length<2147483648) (Y:LC×Int->OS S):Em k f i r Y=Y (lS f i r):=by
 simp only [Em,N_,al hk,tf hk hf h1,kR hk hr h2,bR]
 unfold lS pr
 cases ha:ep f with
 |false=>rfl
 |true=>
  rw [bY,ah]
  by_cases h3:i<0
  ·grind
  ·by_cases h4:i>=24
   ·grind
   ·rw [if_neg h3,if_neg h4,decide_eq_true (by omega)]
    cases hb:cD r with
    |false=>rfl
    |true=>
     rw [bY,ah]
     exact amL hk Y ((jx hr).1 hb) hf ((ta hf).1 ha).2 h1 f [] k [] rfl (by omega) MG
end Go.Proofs.YtgajalidbabccaaGreatDoor
namespace Go.Proofs.YtgajalidbabccaaGreatDoor
open Go PI
mutual
def ax:Tm->Nat
 | .mk _ _ _ _ ks sys=>1+aK ks+aX sys
def aK:LT->Nat
 |[]=>0
 |t::l=>ax t+aK l
def aX:LB->Nat
 |[]=>0
 |b::l=>g4 b+aX l
def g4:Br Tm->Nat
 | .mk _ ks=>aK ks
end
mutual
def aw:Tm->Nat
 | .mk _ _ _ _ ks sys=>max (a7 ks) (bg sys)+1
def a7:LT->Nat
 |[]=>0
 |t::l=>max (aw t) (a7 l)
def bg:LB->Nat
 |[]=>0
 |b::l=>max (iP b) (bg l)
def iP:Br Tm->Nat
 | .mk _ ks=>a7 ks
end
theorem m9 (b:Br Tm):g4 b=aK b.kids:=by cases b;rw [g4]
theorem uk (b:Br Tm):iP b=a7 b.kids:=by cases b;rw [iP]
theorem l7 (t:Tm):1<=ax t:=by cases t;rw [ax];omega
theorem kS: ∀ {l:LT} {x:Tm},x∈l->ax x<=aK l:=by
 intro l
 induction l<;>grind [aK]
theorem ti: ∀ {l:LB} {b:Br Tm},b∈l->aK b.kids<=aX l:=by
 intro l
 induction l<;>grind [aX,m9]
theorem JB: ∀ {l:LT} {x:Tm},x∈l->aw x<=a7 l:=by
 intro l
 induction l<;>grind [a7]
theorem PG: ∀ {l:LB} {b:Br Tm},b∈l->a7 b.kids<=bg l:=by
 intro l
 induction l<;>grind [bg,uk]
theorem kf {Q:Tm->Prop} (h: ∀kd n nm r ks sys,(∀x∈ks,Q x)->(∀b∈sys,∀x∈b.kids,Q x)->Q (.mk kd n nm r ks sys)) (t:Tm):Q t:=by
 have: ∀m t,ax t<=m->Q t:=by
  intro m
  induction m with
  |zero=>grind [l7]
  |succ m ih=>
   intro t ht
   cases t with
   |mk kd n nm r ks sys=>
    rw [ax] at ht
    refine h _ _ _ _ _ _ (fun x hx=>ih x ?_) fun b hb x hx=>ih x ?_
    ·have:=kS hx;omega
    ·have:=ti hb;have:=kS hx;omega
 exact this _ t (dC _)
def kidsT:List Int:=[-1,0,0,0,2,1,2,2,2,1,1,3,1,3,2,2,1,1,1,0,0,0,4,1,0,0,1,5,2]
def fK (kd:Int):Int:=if kd<0\/kd>28 then-1 else kidsT.getD kd.toNat 0
def cv (kd i:Int):Int:=if (i=1/\(kd=4\/kd=7))\/(i=0/\(kd=5\/kd=22\/kd=27)) then 1 else 0
def cF (kd i:Int):Int:=if i=0/\(kd=11\/kd=12\/kd=14) then 1 else 0
def dF (kd:Int):Int:=if kd=16 then 2 else if kd=15\/kd=17\/kd=18 then 1 else 0
def aW (kd:Int):Int:=if kd=15 then 1 else 0
theorem lf (kd i:Int):0<=cv kd i/\cv kd i<=1:=by grind [cv]
theorem jJ (kd i:Int):0<=cF kd i/\cF kd i<=1:=by grind [cF]
theorem fO (kd:Int):0<=aW kd/\aW kd<=1:=by grind [aW]
def oy (c:UInt8):Bool:=(decide (97<=c.toNat)&&decide (c.toNat<=122))||(decide (65<=c.toNat)&&decide (c.toNat<=90))||decide (c.toNat=95)
def um (c:UInt8):Bool:=decide (48<=c.toNat)&&decide (c.toNat<=57)
def sK:List UInt8->Bool
 |[]=>false
 |c::l=>oy c&&l.all fun d=>oy d||um d
def cO (kd dims:Int) (b:Br Tm):Bool:=decide ((b.kids.length:Int)=dF kd)&&(ep b.face&&eo b.face dims)
def dE (vars dims:Int):Tm->Bool
 | .mk kd n nm r ks sys=>
  (decide (fK kd=ks.length)&&(decide (kd=1\/n=0)&&(decide (kd=2\/nm.size=0)&&decide (dF kd=0->sys.length=0))))&&
  (if kd=1 then decide (r.length=0)&&(decide (0<=n)&&decide (vars<0\/n<vars))
   else if kd=2 then decide (r.length=0)&&sK nm.data.toList
   else if kd=13\/kd=21\/kd=26 then cD r&&eo r dims
   else if kd=14 then ep r&&eo r dims
   else sys.all (cO kd dims)&&decide (r.length=0))
def dL (vars v:Int):Int:=if vars<0 then vars else vars+v
mutual
def bM (bd:Bool) (vars dims:Int):Tm->Bool
 | .mk kd n nm r ks sys=> !(bd&&decide (dims>24))&&(dE vars dims (.mk kd n nm r ks sys)&&(cz bd vars dims kd 0 ks&&c5 bd vars dims kd sys))
def cz (bd:Bool) (vars dims kd:Int) (i:Nat):LT->Bool
 |[]=>true
 |t::l=>bM bd (dL vars (cv kd i)) (dims+cF kd i) t&&cz bd vars dims kd (i+1) l
def c5 (bd:Bool) (vars dims kd:Int):LB->Bool
 |[]=>true
 |b::l=>mf bd vars dims kd b&&c5 bd vars dims kd l
def mf (bd:Bool) (vars dims kd:Int):Br Tm->Bool
 | .mk _ ks=>c_ bd vars dims kd ks
def c_ (bd:Bool) (vars dims kd:Int):LT->Bool
 |[]=>true
 |t::l=>bM bd vars (dims+aW kd) t&&c_ bd vars dims kd l
end
def ck (t:Tm):Int:=if aw t>200 then 62 else if ax t>20000 then 221 else if bM false (-1) 24 t then 0 else 100
mutual
def OkT:Tm->Prop
 | .mk kd n nm r ks sys=>(a6 kd/\a6 n/\nm.size<1073741824/\aI r/\r.length<1073741824/\ks.length<1073741824/\sys.length<1073741824)/\bo ks/\bH sys
def bo:LT->Prop
 |[]=>True
 |t::l=>OkT t/\bo l
def bH:LB->Prop
 |[]=>True
 |b::l=>iH b/\bH l
def iH:Br Tm->Prop
 | .mk f ks=>(aI f/\f.length<1073741824/\ks.length<1073741824)/\bo ks
end
theorem okK_iff: ∀ {l:LT},bo l↔ ∀t∈l,OkT t:=by
 intro l
 induction l<;>grind [bo]
theorem sM {b:Br Tm}:iH b↔(aI b.face/\b.face.length<1073741824/\b.kids.length<1073741824)/\ ∀t∈b.kids,OkT t:=by
 cases b;rw [iH,okK_iff]
theorem T8: ∀ {l:LB},bH l↔ ∀b∈l,(aI b.face/\b.face.length<1073741824/\b.kids.length<1073741824)/\ ∀t∈b.kids,OkT t:=by
 intro l
 induction l<;>grind [bH,sM]
theorem OkT.node {kd n nm r ks sys} (h:OkT (.mk kd n nm r ks sys)):a6 kd/\a6 n/\nm.size<1073741824/\aI r/\r.length<1073741824/\ks.length<1073741824/\sys.length<1073741824:=by grind [OkT]
theorem OkT.kid {kd n nm r ks sys x} (h:OkT (.mk kd n nm r ks sys)) (hx:x∈ks):OkT x:=by grind [OkT,okK_iff]
theorem OkT.br {kd n nm r ks sys b} (h:OkT (.mk kd n nm r ks sys)) (hb:b∈sys):(aI b.face/\b.face.length<1073741824/\b.kids.length<1073741824)/\ ∀t∈b.kids,OkT t:=by grind [OkT,T8]
theorem afw {bd:Bool} {vars dims kd:Int}: ∀ {l:LT},c_ bd vars dims kd l=l.all (bM bd vars (dims+aW kd)):=by
 intro l
 induction l<;>grind [c_]
theorem BB {bd:Bool} {vars dims kd:Int}: ∀ {l:LB},c5 bd vars dims kd l=l.all fun b=>b.kids.all (bM bd vars (dims+aW kd)):=by
 intro l
 induction l with
 |nil=>rfl
 |cons b l ih=>cases b;simp_all [c5,mf,afw]
set_option maxRecDepth 100000
section
variable {H:Type} {enc:TypeId×Value->H} {w:World} {base:Nat} {spare:Nat->Bool} {held:Bool} {o:Obj} {N:bm} {g:Gh UU}
noncomputable abbrev na (enc:TypeId×Value->H) (w:World) (base:Nat) (spare:Nat->Bool) (held:Bool):=DataW.trod enc Tryz.prog w base spare held
def tr (o:Obj) (w:World) (N:bm) (g:Gh UU) (e:ET) (x:EL e) (cs:List Value):Prop:= ∀ (k:Nat) (p:PU),(gg e x)[k]? =some p-> ∃v,cs[k]? =some v/\Rep (LL o) w N g v p
theorem IW {l:List (DataW H)}:l.length<=Rows.uptoBulkAll l:=by
 induction l with
 |nil=>simp [Rows.uptoBulkAll]
 |cons x r ih=>
  have:1<=Rows.uptoBulk x:=by
   cases x with
   |lit l=>cases l<;>simp [Rows.uptoBulk]
   |_=>simp [Rows.uptoBulk]
  simp only [Rows.uptoBulkAll,cM];omega
theorem build {α β:Type} {R:Nat->β->α->Prop}: ∀ (elems:List β) (s:Nat),(∀i d,elems[i]? =some d-> ∃x,R (s+i) d x)-> ∃l:List α,l.length=elems.length/\ ∀i d,elems[i]? =some d-> ∃x,l[i]? =some x/\R (s+i) d x:=by
 intro elems
 induction elems with
 |nil=>intro s h;exact ⟨[],rfl,fun i d h=>by simp at h⟩
 |cons d r ih=>
  intro s h
  obtain ⟨x,hx⟩:=h 0 d rfl
  obtain ⟨l,hl,hr⟩:=ih (s+1) fun i d' hd=>by
   obtain ⟨x,hx⟩:=h (i+1) d' (by simpa using hd)
   exact ⟨x,by rw [show s+1+i=s+(i+1) by omega];exact hx⟩
  refine ⟨x::l,by simp [hl],fun i d' hd=> ?_⟩
  cases i with
  |zero=>injection hd with hd;subst hd;exact ⟨x,rfl,hx⟩
  |succ i=>
   obtain ⟨y,hy,hr⟩:=hr i d' (by simpa using hd)
   exact ⟨y,by simpa using hy,by rw [show s+(i+1)=s+1+i by omega];exact hr⟩
theorem LD (hN: ∀b o,¬N b o) {e:ET} {tS tE:TypeId} (ht:Tryz.prog.underlying tS=some (.slice tE)) (hc:Tryz.prog.cellsOf tE=uA e) {Q:EL e->DataW H->Prop} {n:Nat} {cs:List Value} {d:DataW H} {pl:List MemPlace}
  (hel: ∀ (cs:List Value) (d:DataW H) (pl:List MemPlace),na enc w base spare held n tE cs=some (d,pl)-> ∃x:EL e,tr o w N g e x cs/\Q x d) (h:na enc w base spare held (n+1) tS cs=some (d,pl)):
  ∃ (v:Value) (l:List (EL e)) (ds:List (DataW H)),cs=[v]/\Rep (LL o) w N g v (.sl (U:=UU) e l .none)/\l.length=ds.length/\(∀ (i:Nat) (x:EL e) (y:DataW H),l[i]? =some x->ds[i]? =some y->Q x y)/\Rows.uptoBulkAll ds+1<=Rows.uptoBulk d:=by
 rcases DataW.trod_slice ht h with ⟨rfl,hx⟩|⟨a,len,cap,elems,rest,m,hm,rfl,hx,hb,hl,hcp,hlen,hee,_,_⟩
 ·injection hx with hx _
  subst hx
  exact ⟨_,[],[],rfl,Rep.sl (X:=LL o) (N:=N) (g:=g) none 0 0 e (show List (EL e) from []) .none (fun _ _=>undef) rfl (dC _) trivial (fun j x hx=>by cases hx) (fun j x hx=>by cases hx),rfl,fun i x y h=>by simp at h,by simp [Rows.uptoBulkAll,Rows.uptoBulk]⟩
 ·obtain rfl:n=m:=by omega
  injection hx with hx _
  subst hx
  obtain ⟨l,hll,hlr⟩:=build (R:=fun i (y:DataW H×List MemPlace) (x:EL e)=> ∃cs',w.cells? base (a.add (i*Tryz.prog.cellsOf tE)) (Tryz.prog.cellsOf tE)=some cs'/\tr o w N g e x cs'/\Q x y.1) elems 0 fun i y hy=>by
   have hi:i<len:=by rw [<-hlen];exact (gy.1 hy).1
   have:=hee i hi
   rw [hy] at this
   obtain ⟨cs',h1,h2⟩:=Option.bind_eq_some_iff.1 this
   obtain ⟨x,hx1,hx2⟩:=hel cs' y.1 y.2 h2
   exact ⟨x,cs',by simpa using h1,hx1,hx2⟩
  have hget: ∀ (j:Nat) (x:EL e),l[j]? =some x-> ∃ (y:DataW H×List MemPlace) (cs':List Value),elems[j]? =some y/\w.cells? base (a.add (j*Tryz.prog.cellsOf tE)) (Tryz.prog.cellsOf tE)=some cs'/\tr o w N g e x cs'/\Q x y.1:=fun j x hx=>by
   have hj:j<elems.length:=by rw [<-hll];exact (gy.1 hx).1
   obtain ⟨x',hx',cs',h1,h2,h3⟩:=hlr j _ (d4 hj)
   rw [hx] at hx'
   injection hx' with hx'
   subst hx'
   exact ⟨_,cs',d4 hj,by simpa using h1,h2,h3⟩
  have hcell: ∀ (j:Nat) (x:EL e),l[j]? =some x-> ∀ (k:Nat) (p:PU),(gg e x)[k]? =some p-> ∃v,w.cell? (a.add (j*(LL o).esize e+k))=some v/\Rep (LL o) w N g v p:=fun j x hx k p hp=>by
   obtain ⟨y,cs',_,h1,h2,_⟩:=hget j x hx
   obtain ⟨v,hv,hr⟩:=h2 k p hp
   obtain ⟨_,hl',hcs⟩:=World.cells?_some h1
   have hk:k<Tryz.prog.cellsOf tE:=by rw [<-hl'];exact (gy.1 hv).1
   have:=hcs k hk
   rw [hv,Go.Deep.add_add,hc] at this
   exact ⟨v,this,hr⟩
  refine ⟨_,l,elems.map (·.1),rfl,Rep.sl (X:=LL o) (some a) len cap e l .none (fun j k=>(w.cell? (a.add (j*(LL o).esize e+k))).getD undef) (by rw [<-hlen];exact hll) hl trivial (fun j x hx k p hp=> ?_) (fun j x hx k p hp=> ?_),by simpa using hll,fun i x y hx hy=> ?_,by simp [Rows.uptoBulk]⟩
  ·obtain ⟨v,hv,_⟩:=hcell j x hx k p hp
   exact ⟨a,rfl,by simp [hv],hN _ _⟩
  ·obtain ⟨v,hv,hr⟩:=hcell j x hx k p hp
   simp only [hv];exact hr
  ·obtain ⟨y',cs',h1,_,_,h3⟩:=hget i x hx
   have:y=y'.1:=by
    rw [List.getElem?_map,h1] at hy
    injection hy with hy;exact hy.symm
   subst this
   exact h3
theorem Ua {n:Nat} {cs:List Value} {d:DataW H} {pl:List MemPlace} (h:na enc w base spare held n 3 cs=some (d,pl)): ∃z,cs=[.int .i64 z]/\a6 z:=by
 obtain ⟨z,rfl,_,hw⟩:=DataW.trod_int Tryz.underlying3 h
 refine ⟨z,rfl, ?_⟩
 simp [Lit.wf,IntKind.has] at hw
 have h1:IntKind.i64.min= -9223372036854775808:=rfl
 have h2:IntKind.i64.max=9223372036854775807:=rfl
 unfold a6
 omega
theorem Ub {n:Nat} {cs:List Value} {d:DataW H} {pl:List MemPlace} (h:na enc w base spare held n 51 cs=some (d,pl)): ∃z,cs=[.int .u32 z]/\U32 z:=by
 obtain ⟨z,rfl,_,hw⟩:=DataW.trod_int Tryz.underlying51 h
 refine ⟨z,rfl, ?_⟩
 simp [Lit.wf,IntKind.has] at hw
 have h1:IntKind.u32.min=0:=rfl
 have h2:IntKind.u32.max=4294967295:=rfl
 unfold U32
 omega
def QC (c:Cl) (d:DataW H):Prop:=bQ c
def QT (t:Tm) (d:DataW H):Prop:=ax t<=Rows.uptoBulk d/\(Rows.uptoBulk d<1073741824->OkT t)
def QB (b:Br Tm) (d:DataW H):Prop:=g4 b<=Rows.uptoBulk d/\(Rows.uptoBulk d<1073741824->(aI b.face/\b.face.length<1073741824/\b.kids.length<1073741824)/\ ∀t∈b.kids,OkT t)
theorem ao5 {n:Nat} {cs:List Value} {d:DataW H} {pl:List MemPlace} (h:na enc w base spare held n 53 cs=some (d,pl)): ∃x:EL ET.C,tr o w N g ET.C x cs/\QC (show Cl from x) d:=by
 obtain ⟨xs,m,rfl,_,hl,hlen,hf⟩:=DataW.trod_struct Tryz.underlying53 h
 have hl2:cs.length=2:=hl.trans (by kernel_rfl)
 match cs,hl2,xs,hlen with
 |[a,b],_,[y0,y1],_=>
 have h0:=hf 0 _ rfl
 have h1:=hf 1 _ rfl
 have c51:Tryz.prog.cellsOf 51=1:=by kernel_rfl
 simp [c51] at h0 h1
 obtain ⟨z0,e0,k0⟩:=Ub h0
 obtain ⟨z1,e1,k1⟩:=Ub h1
 obtain rfl:a= .int .u32 z0:=by simpa using e0
 obtain rfl:b= .int .u32 z1:=by simpa using e1
 refine ⟨(⟨z0,z1⟩:Cl),fun k p hp=> ?_,⟨k0,k1⟩⟩
 match k,hp with
 |0,hp=>cases hp;exact ⟨_,rfl,.int _ _⟩
 |1,hp=>cases hp;exact ⟨_,rfl,.int _ _⟩
 |k+2,hp=>simp [gg] at hp
theorem asU {l:List Tm} {ds:List (DataW H)} (hl:l.length=ds.length) (h: ∀ (i:Nat) (x:Tm) (y:DataW H),l[i]? =some x->ds[i]? =some y->QT x y):aK l<=Rows.uptoBulkAll ds/\(Rows.uptoBulkAll ds<1073741824-> ∀t∈l,OkT t):=by
 induction l generalizing ds with
 |nil=>rw [aK];exact ⟨Nat.zero_le _,fun _ t ht=>by cases ht⟩
 |cons t l ih=>
  cases ds with
  |nil=>cases hl
  |cons d ds=>
   obtain ⟨h1,h2⟩:=h 0 t d rfl rfl
   obtain ⟨i1,i2⟩:=ih (ds:=ds) (by simpa using hl) fun i x y hx hy=>h (i+1) x y (by simpa using hx) (by simpa using hy)
   rw [aK,Rows.uptoBulkAll]
   refine ⟨by omega,fun hb u hu=> ?_⟩
   rcases gc.1 hu with rfl|hu
   ·exact h2 (by omega)
   ·exact i2 (by omega) u hu
theorem asV {l:List (Br Tm)} {ds:List (DataW H)} (hl:l.length=ds.length) (h: ∀ (i:Nat) (x:Br Tm) (y:DataW H),l[i]? =some x->ds[i]? =some y->QB x y):aX l<=Rows.uptoBulkAll ds/\(Rows.uptoBulkAll ds<1073741824->bH l):=by
 induction l generalizing ds with
 |nil=>rw [aX,bH];exact ⟨Nat.zero_le _,fun _=>trivial⟩
 |cons t l ih=>
  cases ds with
  |nil=>cases hl
  |cons d ds=>
   obtain ⟨h1,h2⟩:=h 0 t d rfl rfl
   obtain ⟨i1,i2⟩:=ih (ds:=ds) (by simpa using hl) fun i x y hx hy=>h (i+1) x y (by simpa using hx) (by simpa using hy)
   rw [aX,Rows.uptoBulkAll,bH,sM]
   exact ⟨by omega,fun hb=>⟨h2 (by omega),i2 (by omega)⟩⟩
theorem T_ (hN: ∀b o,¬N b o) {n:Nat} {cs:List Value} {d:DataW H} {pl:List MemPlace} (h:na enc w base spare held n 22 cs=some (d,pl)):
  ∃ (v:Value) (l:List Cl),cs=[v]/\Rep (LL o) w N g v (cZ l .none)/\aI l/\l.length+1<=Rows.uptoBulk d:=by
 cases n with
 |zero=>cases h
 |succ n=>
  obtain ⟨v,l,ds,rfl,hr,hl,hq,hb⟩:=LD (e:=ET.C) (Q:=fun x d=>QC (show Cl from x) d) hN Tryz.underlying22 (by kernel_rfl) (fun cs d pl h=>ao5 h) h
  refine ⟨v,l,rfl,hr,fun c hc=> ?_, ?_⟩
  ·obtain ⟨i,hi⟩:=List.getElem?_of_mem hc
   have hlt:i<ds.length:=by rw [<-hl];exact (gy.1 hi).1
   exact hq i c _ hi (d4 hlt)
  ·have:=IW (l:=ds)
   have hl': @List.length Cl l=ds.length:=hl
   omega
theorem ao4 (hN: ∀b o,¬N b o): ∀ (n:Nat),
  (∀ (cs:List Value) (d:DataW H) (pl:List MemPlace),na enc w base spare held n 26 cs=some (d,pl)-> ∃x:EL ET.T,tr o w N g ET.T x cs/\QT (show Tm from x) d)/\
  (∀ (cs:List Value) (d:DataW H) (pl:List MemPlace),na enc w base spare held n 48 cs=some (d,pl)-> ∃x:EL ET.B,tr o w N g ET.B x cs/\QB (show Br Tm from x) d)/\
  (∀ (cs:List Value) (d:DataW H) (pl:List MemPlace),na enc w base spare held n 23 cs=some (d,pl)-> ∃ (v:Value) (l:List Tm),cs=[v]/\Rep (LL o) w N g v (gO l .none)/\aK l+1<=Rows.uptoBulk d/\l.length+1<=Rows.uptoBulk d/\(Rows.uptoBulk d<1073741824-> ∀t∈l,OkT t))/\
  (∀ (cs:List Value) (d:DataW H) (pl:List MemPlace),na enc w base spare held n 24 cs=some (d,pl)-> ∃ (v:Value) (l:List (Br Tm)),cs=[v]/\Rep (LL o) w N g v (fz l .none)/\aX l+1<=Rows.uptoBulk d/\l.length+1<=Rows.uptoBulk d/\(Rows.uptoBulk d<1073741824->bH l)):=by
 intro n
 induction n with
 |zero=>exact ⟨fun cs d pl h=>(by cases h),fun cs d pl h=>(by cases h),fun cs d pl h=>(by cases h),fun cs d pl h=>(by cases h)⟩
 |succ n ih=>
 obtain ⟨iT,iB,iK,iS⟩:=ih
 have c3:Tryz.prog.cellsOf 3=1:=by kernel_rfl
 have c9:Tryz.prog.cellsOf 9=1:=by kernel_rfl
 have c22:Tryz.prog.cellsOf 22=1:=by kernel_rfl
 have c23:Tryz.prog.cellsOf 23=1:=by kernel_rfl
 have c24:Tryz.prog.cellsOf 24=1:=by kernel_rfl
 refine ⟨fun cs d pl h=> ?_,fun cs d pl h=> ?_,fun cs d pl h=> ?_,fun cs d pl h=> ?_⟩
 ·obtain ⟨xs,m,hm,hx,hl,hlen,hf⟩:=DataW.trod_struct Tryz.underlying26 h
  obtain rfl:n=m:=by omega
  injection hx with hx _
  subst hx
  have hl6:cs.length=6:=hl.trans (by kernel_rfl)
  match cs,hl6,xs,hlen with
  |[a0,a1,a2,a3,a4,a5],_,[y0,y1,y2,y3,y4,y5],_=>
  have h0:=hf 0 _ rfl
  have h1:=hf 1 _ rfl
  have h2:=hf 2 _ rfl
  have h3:=hf 3 _ rfl
  have h4:=hf 4 _ rfl
  have h5:=hf 5 _ rfl
  simp [c3,c9,c22,c23,c24] at h0 h1 h2 h3 h4 h5
  obtain ⟨z0,e0,k0⟩:=Ua h0
  obtain ⟨z1,e1,k1⟩:=Ua h1
  obtain ⟨s,e2,k2,_⟩:=DataW.trod_string Tryz.underlying9 h2
  obtain ⟨v3,l3,e3,r3,k3,m3⟩:=T_ (o:=o) (g:=g) hN h3
  obtain ⟨v4,l4,e4,r4,k4,m4,q4⟩:=iK _ _ _ h4
  obtain ⟨v5,l5,e5,r5,k5,m5,q5⟩:=iS _ _ _ h5
  obtain rfl:a0= .int .i64 z0:=by simpa using e0
  obtain rfl:a1= .int .i64 z1:=by simpa using e1
  obtain rfl:a2= .string s:=by simpa using e2
  obtain rfl:a3=v3:=by simpa using e3
  obtain rfl:a4=v4:=by simpa using e4
  obtain rfl:a5=v5:=by simpa using e5
  have hs:s.size<Rows.uptoBulk y2.1:=by
   rw [k2]
   simp [Rows.uptoBulk]
  refine ⟨Tm.mk z0 z1 s l3 l4 l5,fun k p hp=> ?_, ?_,fun hb=> ?_⟩
  ·match k,hp with
   |0,hp=>cases hp;exact ⟨_,rfl,.int _ _⟩
   |1,hp=>cases hp;exact ⟨_,rfl,.int _ _⟩
   |2,hp=>cases hp;exact ⟨_,rfl,.str _⟩
   |3,hp=>cases hp;exact ⟨_,rfl,r3⟩
   |4,hp=>cases hp;exact ⟨_,rfl,r4⟩
   |5,hp=>cases hp;exact ⟨_,rfl,r5⟩
   |k+6,hp=>simp [gg] at hp
  ·show ax _<=_
   rw [ax]
   simp only [List.map_cons,List.map_nil,Rows.uptoBulk,Rows.uptoBulkAll]
   omega
  ·simp only [List.map_cons,List.map_nil,Rows.uptoBulk,Rows.uptoBulkAll] at hb
   show OkT _
   rw [OkT,okK_iff]
   exact ⟨⟨k0,k1,by omega,k3,by omega,by omega,by omega⟩,q4 (by omega),q5 (by omega)⟩
 ·obtain ⟨xs,m,hm,hx,hl,hlen,hf⟩:=DataW.trod_struct Tryz.underlying48 h
  obtain rfl:n=m:=by omega
  injection hx with hx _
  subst hx
  have hl2:cs.length=2:=hl.trans (by kernel_rfl)
  match cs,hl2,xs,hlen with
  |[a0,a1],_,[y0,y1],_=>
  have h0:=hf 0 _ rfl
  have h1:=hf 1 _ rfl
  simp [c22,c23] at h0 h1
  obtain ⟨v3,l3,e3,r3,k3,m3⟩:=T_ (o:=o) (g:=g) hN h0
  obtain ⟨v4,l4,e4,r4,k4,m4,q4⟩:=iK _ _ _ h1
  obtain rfl:a0=v3:=by simpa using e3
  obtain rfl:a1=v4:=by simpa using e4
  refine ⟨Br.mk l3 l4,fun k p hp=> ?_, ?_,fun hb=> ?_⟩
  ·match k,hp with
   |0,hp=>cases hp;exact ⟨_,rfl,r3⟩
   |1,hp=>cases hp;exact ⟨_,rfl,r4⟩
   |k+2,hp=>simp [gg] at hp
  ·show g4 _<=_
   rw [g4]
   simp only [List.map_cons,List.map_nil,Rows.uptoBulk,Rows.uptoBulkAll]
   omega
  ·simp only [List.map_cons,List.map_nil,Rows.uptoBulk,Rows.uptoBulkAll] at hb
   exact ⟨⟨k3,by show l3.length<_;omega,by show l4.length<_;omega⟩,q4 (by omega)⟩
 ·obtain ⟨v,l,ds,rfl,hr,hl,hq,hb⟩:=LD (e:=ET.T) (Q:=fun x d=>QT (show Tm from x) d) hN Tryz.underlying23 (by kernel_rfl) iT h
  obtain ⟨s1,s2⟩:=asU (l:=l) hl hq
  have:=IW (l:=ds)
  have hl': @List.length Tm l=ds.length:=hl
  exact ⟨v,l,rfl,hr,by omega,by omega,fun hd=>s2 (by omega)⟩
 ·obtain ⟨v,l,ds,rfl,hr,hl,hq,hb⟩:=LD (e:=ET.B) (Q:=fun x d=>QB (show Br Tm from x) d) hN Tryz.underlying24 (by kernel_rfl) iB h
  obtain ⟨s1,s2⟩:=asV (l:=l) hl hq
  have:=IW (l:=ds)
  have hl': @List.length (Br Tm) l=ds.length:=hl
  exact ⟨v,l,rfl,hr,by omega,by omega,fun hd=>s2 (by omega)⟩
end
end Go.Proofs.YtgajalidbabccaaGreatDoor
namespace Go.Proofs
open Go.Shelf
def Tryz.sortCl_ren:Go.Shelf.Ren:=⟨fun|6=>230|15=>280|14=>279|28=>311|29=>312|20=>303|21=>304|22=>305|23=>306|24=>307|25=>308|26=>309|27=>310|46=>328|47=>329|48=>330|49=>331|50=>332|57=>338|n=>n,fun|22=>22|24=>53|25=>177|3=>3|39=>178|0=>0|53=>51|55=>197|4=>4|46=>213|45=>212|50=>217|5=>5|9=>9|66=>221|70=>225|76=>231|77=>63|n=>n,fun|n=>n⟩
theorem Tryz.sortCl:Go.Proofs.SlLaysF0.n6 Tryz.prog Tryz.sortCl_ren:={
 mixed:=by kernel_rfl
 f6:=⟨Tryz.f230.name,by decide,Tryz.func230.trans (congrArg some (by kernel_rfl))⟩
 f14:=⟨Tryz.f279.name,by decide,Tryz.func279.trans (congrArg some (by kernel_rfl))⟩
 f15:=Tryz.func280.trans (congrArg some (by kernel_rfl))
 f20:=⟨Tryz.f303.name,by decide,Tryz.func303.trans (congrArg some (by kernel_rfl))⟩
 f21:=⟨Tryz.f304.name,by decide,Tryz.func304.trans (congrArg some (by kernel_rfl))⟩
 f22:=⟨Tryz.f305.name,by decide,Tryz.func305.trans (congrArg some (by kernel_rfl))⟩
 f23:=⟨Tryz.f306.name,by decide,Tryz.func306.trans (congrArg some (by kernel_rfl))⟩
 f24:=⟨Tryz.f307.name,by decide,Tryz.func307.trans (congrArg some (by kernel_rfl))⟩
 f25:=⟨Tryz.f308.name,by decide,Tryz.func308.trans (congrArg some (by kernel_rfl))⟩
 f26:=⟨Tryz.f309.name,by decide,Tryz.func309.trans (congrArg some (by kernel_rfl))⟩
 f27:=⟨Tryz.f310.name,by decide,Tryz.func310.trans (congrArg some (by kernel_rfl))⟩
 f28:=Tryz.func311.trans (congrArg some (by kernel_rfl))
 f29:=Tryz.func312.trans (congrArg some (by kernel_rfl))
 f46:=⟨Tryz.f328.name,by decide,Tryz.func328.trans (congrArg some (by kernel_rfl))⟩
 f47:=Tryz.func329.trans (congrArg some (by kernel_rfl))
 f48:=Tryz.func330.trans (congrArg some (by kernel_rfl))
 f49:=⟨Tryz.f331.name,by decide,Tryz.func331.trans (congrArg some (by kernel_rfl))⟩
 f50:=⟨Tryz.f332.name,by decide,Tryz.func332.trans (congrArg some (by kernel_rfl))⟩
 f57:=⟨Tryz.f338.name,by decide,Tryz.func338.trans (congrArg some (by kernel_rfl))⟩
 t0:=Tryz.underlying0
 a0:=Tryz.isAgg0
 z0:=Tryz.sizeOf0
 v0:=Tryz.zeroValue0
 t3:=Tryz.underlying3
 a3:=Tryz.isAgg3
 z3:=Tryz.sizeOf3
 v3:=Tryz.zeroValue3
 t4:=Tryz.underlying4
 a4:=Tryz.isAgg4
 z4:=Tryz.sizeOf4
 v4:=Tryz.zeroValue4
 t5:=Tryz.underlying5
 a5:=Tryz.isAgg5
 z5:=Tryz.sizeOf5
 v5:=Tryz.zeroValue5
 t9:=Tryz.underlying9
 a9:=Tryz.isAgg9
 z9:=Tryz.sizeOf9
 v9:=Tryz.zeroValue9
 t22:=Tryz.underlying22
 a22:=Tryz.isAgg22
 z22:=Tryz.sizeOf22
 v22:=Tryz.zeroValue22
 t25:=Tryz.underlying177
 a25:=Tryz.isAgg177
 z25:=Tryz.sizeOf177
 v25:=Tryz.zeroValue177
 t39:=Tryz.underlying178
 a39:=Tryz.isAgg178
 z39:=Tryz.sizeOf178
 v39:=Tryz.zeroValue178
 t45:=Tryz.underlying212
 a45:=Tryz.isAgg212
 z45:=Tryz.sizeOf212
 v45:=Tryz.zeroValue212
 t46:=Tryz.underlying213
 a46:=Tryz.isAgg213
 z46:=Tryz.sizeOf213
 v46:=Tryz.zeroValue213
 t50:=Tryz.underlying217
 a50:=Tryz.isAgg217
 z50:=Tryz.sizeOf217
 v50:=Tryz.zeroValue217
 t53:=Tryz.underlying51
 a53:=Tryz.isAgg51
 z53:=Tryz.sizeOf51
 v53:=Tryz.zeroValue51
 t55:=Tryz.underlying197
 a55:=Tryz.isAgg197
 z55:=Tryz.sizeOf197
 v55:=Tryz.zeroValue197
 t66:=Tryz.underlying221
 a66:=Tryz.isAgg221
 z66:=Tryz.sizeOf221
 v66:=Tryz.zeroValue221
 t70:=Tryz.underlying225
 a70:=Tryz.isAgg225
 z70:=Tryz.sizeOf225
 v70:=Tryz.zeroValue225
 t76:=Tryz.underlying231
 a76:=Tryz.isAgg231
 z76:=Tryz.sizeOf231
 v76:=Tryz.zeroValue231
 t77:=Tryz.underlying63
 a77:=Tryz.isAgg63
 z77:=Tryz.sizeOf63
 v77:=Tryz.zeroValue63}
end Go.Proofs
namespace Go.Proofs.YtgajalidbabccaaGreatDoor
open Go PI
set_option maxRecDepth 100000
noncomputable section
def ajN:Nat:=314
def ajO:Nat:=91
noncomputable def MK {S:Type}:List PU->List (Box UU)->(Out UU->Option S)->Option S
 |[.sl .C y0 .none],[],κ=>vY y0 fun r=>κ (.ret (cZ r .none) [])
 |_,_,_=> .none
noncomputable def MJ {S:Type}:List PU->List (Box UU)->(Out UU->Option S)->Option S
 |[.int .u32 y0],[],κ=>AD y0 fun r=>κ (.ret (oN r .none) [])
 |_,_,_=> .none
end
end Go.Proofs.YtgajalidbabccaaGreatDoor
namespace Go.Proofs
open Go.Shelf Go.RowKit
set_option maxHeartbeats 1000000 in
theorem Tryz.tz32_core (x k idx:Nat) (w:World) (hx0:((x:Int)==0)=false)
  (key:bits BinOp.and IntKind.u32 (x:Int) (-(x:Int)%4294967296)*125613361%4294967296/134217728=(idx:Int))
  (hi:idx<32) (hk:k<32) (hcell:w.cell? ⟨0,idx,none⟩=some (.int .u8 k)):
  Calls Tryz.prog 340 #[.int .u32 x] w fun e w'=>e= .returned (.int .i64 k)/\w'=w:=by
 go_enter Tryz.func340,Tryz.ntmps340
 go_wp2_with (simp only [key])
 go_ret
 exact ⟨rfl,rfl⟩
theorem Tryz.tz32 (x:Nat) (hx:x<4294967296) (h0:x≠0) (w:World) (hT:TabAt 0 Lib.deBruijn32tab w):
  Calls Tryz.prog 340 #[.int .u32 x] w fun e w'=>e= .returned (.int .i64 (Lib.ctz 32 x))/\w'=w:=by
 obtain ⟨hlow,hk⟩:=Lib.lowest_bit 32 x h0 hx
 obtain ⟨hi,htab⟩:=Lib.deBruijn32_at _ hk
 have hcell:=hT _ hi
 rw [htab] at hcell
 exact Tryz.tz32_core x _ _ w (by simp;omega) (tz32_key x _ hx h0 hlow) hi hk hcell
end Go.Proofs
namespace Go.Proofs.YtgajalidbabccaaGreatDoor
open Go Go.Shelf Go.RowKit
attribute [local go_sem] Oper.semAt_some
def iA (s:Nat):List Nat:=(dB 24).filter s.testBit
theorem atf (s:Nat) (h0:s≠0) (h:s<16777216):iA s=Lib.ctz 32 s::iA (s&&&(s-1))/\s&&&(s-1)<s:=by
 obtain ⟨m,hm,hk⟩:=Lib.ctzFrom_spec 32 s (by omega) (by omega)
 have e:Lib.ctz 32 s=Lib.ctzFrom 32 s:=by simp [Lib.ctz,h0]
 rw [e]
 generalize Lib.ctzFrom 32 s=t at hm hk
 have hs:s=2^(t+1)*m+2^t:=by
  rw [hm,Nat.mul_add,Nat.mul_one,Nat.pow_succ,<-Nat.mul_assoc]
 have hp:0<2^t:=Nat.two_pow_pos t
 have hp2:2^(t+1)=2^t*2:=Nat.pow_succ 2 t
 have hs1:s-1=2^(t+1)*m+(2^t-1):=by omega
 have b1: ∀j,s.testBit j=if j<t+1 then decide (t=j) else m.testBit (j-(t+1)):=fun j=>by
  rw [hs,Nat.testBit_two_pow_mul_add _ (by omega),Nat.testBit_two_pow]
 have b2: ∀j,(s-1).testBit j=if j<t+1 then decide (j<t) else m.testBit (j-(t+1)):=fun j=>by
  rw [hs1,Nat.testBit_two_pow_mul_add _ (by omega),Nat.testBit_two_pow_sub_one]
 have b3: ∀j,(s&&&(s-1)).testBit j=if j<t+1 then false else m.testBit (j-(t+1)):=fun j=>by
  rw [Nat.testBit_and,b1,b2]
  by_cases hj:j<t+1
  ·rw [if_pos hj,if_pos hj,if_pos hj]
   by_cases ht:t=j
   ·rw [decide_eq_true ht,decide_eq_false (by omega)];rfl
   ·rw [decide_eq_false ht];rfl
  ·rw [if_neg hj,if_neg hj,if_neg hj,Bool.and_self]
 have b4:s&&&(s-1)=2^(t+1)*m:=by
  apply g6
  intro j
  rw [b3]
  have:2^(t+1)*m=2^(t+1)*m+0:=rfl
  rw [this,Nat.testBit_two_pow_mul_add _ (by omega),Nat.zero_testBit]
 have ht:t<24:=by
  apply Nat.lt_of_not_le
  intro hle
  have:2^24<=2^t:=jH (by decide) hle
  have h24:(2:Nat)^24=16777216:=by decide
  omega
 refine ⟨?_,by omega⟩
 unfold iA
 have hr:dB 24=dB t++(t::(dB (23-t)).map (fun j=>t+1+j)):=by
  apply List.ext_getElem
  ·simp;omega
  ·intro i h1 h2
   simp only [List.getElem_range]
   by_cases hi:i<t
   ·rw [List.getElem_append_left (by simpa using hi)];simp
   ·rw [List.getElem_append_right (by simpa using hi)]
    simp only [List.length_range]
    by_cases he:i=t
    ·subst he;simp
    ·obtain ⟨d,rfl⟩: ∃d,i=t+1+d:=⟨i-t-1,by omega⟩
     simp only [show t+1+d-t=d+1 by omega,List.getElem_cons_succ,List.getElem_map,List.getElem_range]
 rw [hr,List.filter_append,List.filter_append]
 have f1:(dB t).filter s.testBit=[]:=List.filter_eq_nil_iff.2 fun j hj=>by
  have:=List.mem_range.1 hj
  rw [b1,if_pos (by omega),decide_eq_false (by omega)];decide
 have f2:(dB t).filter (s&&&(s-1)).testBit=[]:=List.filter_eq_nil_iff.2 fun j hj=>by
  have:=List.mem_range.1 hj
  rw [b3,if_pos (by omega)];decide
 rw [f1,f2,dG,dG,List.filter_cons_of_pos (by rw [b1,if_pos (by omega)];simp),List.filter_cons_of_neg (by rw [b3,if_pos (by omega)];decide)]
 congr 1
 apply List.filter_congr
 intro j hj
 obtain ⟨d,_,rfl⟩:=dS.1 hj
 rw [b1,b3,if_neg (by omega),if_neg (by omega)]
theorem atd:iA 0=[]:=List.filter_eq_nil_iff.2 fun j _=>by rw [Nat.zero_testBit];decide
theorem ate (s:Nat):(iA s).length<=24:=by
 have:=List.length_filter_le s.testBit (dB 24)
 simpa [iA] using this
theorem akt (s:Int) (w:World):Calls Tryz.prog 333 #[.int .u32 s] w fun e w'=>e= .returned (.func (.func 339) #[] #[.pointer (some ⟨w.heap.size,0,none⟩)])/\w'=w.alloc (.cells #[.int .u32 s] 51):=by
 go_enter Tryz.func333,Tryz.ntmps333
 go_wp2
 go_ret
 exact ⟨rfl,rfl⟩
def KZ:Code:=(Code.region 3 #[{dst:=some 4,op:=Op.assign (Operand.tmp 7),type:=3,pos:= "mask.go:57",after:= #[],guard:=none}] false)
def K0:Code:=(Code.block 1 (Code.region 4 #[{dst:=some 8,op:=Op.load 98 (Operand.tmp 3),type:=98,pos:= "mask.go:58",after:= #[],guard:=none},{dst:=some 9,op:=Op.move (Operand.tmp 4),type:=3,pos:= "mask.go:58",after:= #[],guard:=none},{dst:=some 10,op:=Op.buildSlice 98 1 #[(0,Operand.tmp 9)],type:=98,pos:= "mask.go:58",after:= #[{on:=1,ground:=Ground.data}],guard:=none},{dst:=some 11,op:=Op.call {callee:=Callee.builtin Builtin.append,args:= #[Operand.tmp 8,Operand.tmp 10],argTypes:= #[98,98]},type:=98,pos:= "mask.go:58",after:= #[{on:=0,ground:=Ground.data},{on:=2,ground:=Ground.data}],guard:=none},{dst:=none,op:=Op.store 98 (Operand.tmp 3) (Operand.tmp 11),type:=0,pos:= "mask.go:58",after:= #[{on:=3,ground:=Ground.data},{on:=3,ground:=Ground.chain},{on:=0,ground:=Ground.phase},{on:=1,ground:=Ground.phase},{on:=2,ground:=Ground.phase},{on:=3,ground:=Ground.phase}],guard:=none}] false))
def lP (fn:FuncId) (s0:Int) (fv:Value) (Bo D:Nat) (st:LoopState) (pend:Option Code):Loop:=
 {state:=st,pending:=pend,fn,tmps:= #[.int .u32 s0,undef,.slice none 0 0,.pointer (some ⟨Bo,0,none⟩),undef,.int .u32 s0,fv,undef,undef,undef,undef,undef,undef],params:= #[7],assign:=KZ,body:=K0,defers:=D}
def jl (x:Nat):Value:= .int .i64 (x:Int)
structure LsAt (w0:World) (fn:FuncId) (s0:Int) (fv:Value) (Bo l D:Nat) (ss:List Nat) (W:World):Prop where
 box: ∃v,W.heap[Bo]? =some (.cells #[v] 98 (0,0))/\W.ownsRow w0.heap.size 3 1 v ss.length (ss.map jl)
 L:W.heap[l]? =some (.loop (lP fn s0 fv Bo D .ready none))
 K:W.heap[D]? =some (.deferred (some []))
 below:Below w0.heap.size w0 W
theorem vZ (W:World) (l:Nat) (o:Obj):W.grownBy (W.putObj l o) (some l):=
 ⟨rfl,rfl,rfl,by simp,fun k _ hk=>World.putObj_heap_other (fun e=>hk (by rw [e]))⟩
theorem Nb (W:World) (b:Nat) (v:Value):W.grownBy (W.setCell ⟨b,0,none⟩ v) (some b):=
 ⟨rfl,rfl,rfl,(KeepsWalks.setCell W _ v).size,fun k _ hk=>Below.heap_setCell _ _ _ k (fun e=>hk (by rw [e]))⟩
theorem qh {W:World} {base:Nat} {e:TypeId} {size:Nat} {v:Value} {k:Nat} {xs:List Value} (h:W.ownsRow base e size v k xs) {j:Nat} {o:Obj} (hj:W.heap[j]? =some o) (hno: ∀cur,o≠ .cells cur e (0,0)):
  v.ownBlock=none\/v.ownBlock≠some j:=by
 rcases h.2 with ⟨rfl,_⟩|⟨g,cap,cur,rfl,_,hgb,_⟩
 ·exact .inl rfl
 ·refine .inr fun e'=> ?_
  have:g=j:=by simpa [Value.ownBlock] using e'
  subst this;rw [hgb] at hj;cases hj;exact hno cur rfl
theorem ra {W:World} {B:Nat} {v:Value} {t:TypeId} (h:W.heap[B]? =some (.cells #[v] t (0,0))):W.cell? ⟨B,0,none⟩=some v/\W.frozen? ⟨B,0,none⟩=false:=by
 constructor<;>simp [World.cell?,World.frozen?,h]
theorem IT {W:World} {B:Nat} {v:Value} {t:TypeId} (v':Value) (h:W.heap[B]? =some (.cells #[v] t (0,0))):(W.setCell ⟨B,0,none⟩ v').heap[B]? =some (.cells #[v'] t (0,0)):=by
 obtain ⟨hlt,hk⟩:=ij.1 h
 show (W.heap.modify B _)[B]? =_
 rw [Array.getElem?_eq_getElem (by rw [Array.size_modify];exact hlt),Array.getElem_modify_self,hk]
 rfl
theorem akw:(Tryz.prog.info? 3).map (fun i=>(i.zero,i.size,i.bytes))=some (some (.int .i64 0),1,8):=by kernel_rfl
set_option maxRecDepth 100000 in
set_option maxHeartbeats 2000000 in
theorem an8 (F:Fence) (m:Nat) (w0:World) (fn:FuncId) (hfn:F.fn fn) (s0:Int) (fv:Value) (Bo Bi l D:Nat) (hBl:Bo≠l) (hDl:D≠l) (hDB:D≠Bo) (hBiBo:Bi≠Bo) (hBil:Bi≠l) (h0B:w0.heap.size<=Bo) (h0l:w0.heap.size<=l)
  (ss:List Nat) (x:Nat) (c:Value) (W:World) (h:LsAt w0 fn s0 fv Bo l D ss W) (hi0:W.heap[Bi]? =some (.cells #[c] 51 (0,0))) (hlen:ss.length<24):
  YieldAt F m Tryz.prog l #[jl x] W fun e W'=>e= .returned (.bool true)/\LsAt w0 fn s0 fv Bo l D (ss++[x]) W'/\W'.heap[Bi]? =some (.cells #[c] 51 (0,0)):=by
 obtain ⟨i0,hi,hz0,hz1,hz2⟩:=info_parts akw
 obtain ⟨v,hv,hrow⟩:=h.box
 refine ⟨fn,#[.int .u32 s0,undef,.slice none 0 0,.pointer (some ⟨Bo,0,none⟩),undef,.int .u32 s0,fv,.int .i64 (x:Int),undef,undef,undef,undef,undef],KZ,K0,by simpa [lP,jl] using run_yield (P:=Tryz.prog) (args:= #[jl x]) h.L rfl,roundIn_of_wpIn hfn ?_⟩
 have hl:l<W.heap.size:=(ij.1 h.L).1
 have hbr:=run_beginRound (P:=Tryz.prog) h.L rfl
 obtain ⟨W2,hW2⟩: ∃W2,W.putObj l (.loop {lP fn s0 fv Bo D .ready none with state:= .busy})=W2:=⟨_,rfl⟩
 rw [hW2] at hbr
 have hg2:W.grownBy W2 (some l):=by rw [<-hW2];exact vZ _ _ _
 have hv2:W2.heap[Bo]? =some (.cells #[v] 98 (0,0)):=by rw [<-hW2];exact (World.putObj_heap_other hBl).trans hv
 have hi2:W2.heap[Bi]? =some (.cells #[c] 51 (0,0)):=by rw [<-hW2];exact (World.putObj_heap_other hBil).trans hi0
 have hK2:W2.heap[D]? =some (.deferred (some [])):=by rw [<-hW2];exact (World.putObj_heap_other hDl).trans h.K
 have hL2:W2.heap[l]? =some (.loop {lP fn s0 fv Bo D .ready none with state:= .busy}):=by rw [<-hW2];exact World.putObj_heap_same hl
 have hrow2:W2.ownsRow w0.heap.size 3 1 v ss.length (ss.map jl):=hrow.kept hg2 (qh hrow h.L (fun cur e=>by cases e))
 have hb2:Below w0.heap.size w0 W2:=h.below.grown hg2 h.below.size (fun k e=>by cases e;exact h0l)
 obtain ⟨hc2,hf2⟩:=ra hv2
 have hBlt:Bo<W2.heap.size:=(ij.1 hv2).1
 have hBilt:Bi<W2.heap.size:=(ij.1 hi2).1
 have hl2:l<W2.heap.size:=(ij.1 hL2).1
 have hDlt:D<W2.heap.size:=(ij.1 hK2).1
 have ne_of: ∀ {j:Nat} {o:Obj},W2.heap[j]? =some o->(∀cur,o≠ .cells cur 3 (0,0))->some j≠v.ownBlock:=fun hj hno=>by
  rcases qh hrow2 hj hno with e|e
  ·rw [e];simp
  ·exact fun e'=>e e'.symm
 clear hW2
 have hml:24<=maxLen:=by unfold maxLen;omega
 unfold KZ
 gi_wp2_with (rw [Oper.semAt_eq _ _ _ (fun c h=>by cases h)];go_simp;try go_bits)
 unfold K0
 gi_wp2_with (first
  |(gi_at_builtin;refine wpListIn_append_own _ rfl _ _ 98 rfl w0.heap.size 3 i0 (.int .i64 0) 1 8 Tryz.underlying98 hi hz0 hz1 hz2 rfl (by decide) _ _ _ rfl (hrow2.alloc _) ⟨W2.heap.size,0,none⟩ 1 1 [jl x] rfl rfl (cell_one_new _ _ _) (by simp [Value.oneCell',jl]) (by omega) (by omega) (by have:=hb2.size;simp;omega) ?_;intro v' w3 hown' hg3 hnil3
    have hv3:w3.heap[Bo]? =some (.cells #[v] 98 (0,0)):=(hg3.block Bo (by simp;omega) (ne_of hv2 (fun cur e=>by cases e))).trans ((Below.heap_alloc _ _ Bo hBlt).trans hv2)
    obtain ⟨hc3,hf3⟩:=ra hv3
    obtain ⟨g',cap',cur',rfl,hbase',hgb',hr1,hr2,hr3,hr4⟩: ∃g' cap' cur',v'= .slice (some ⟨g',0,none⟩) (ss.length+1) cap'/\w0.heap.size<=g'/\w3.heap[g']? =some (.cells cur' 3 (0,0))/\ss.length+1<=cap'/\cap'<=maxLen/\cur'.size=cap'*1/\cur'.toList.take ((ss.length+1)*1)=ss.map jl++[jl x]:=by
     rcases hown'.2 with ⟨_,h0⟩|h'
     ·exact absurd h0 (by omega)
     ·exact h'
    go_frame)
  |(rw [Oper.semAt_eq _ _ _ (fun c h=>by cases h)];go_simp;try go_bits))
 have hg3':(W2.alloc (.cells #[jl x] 3)).grownBy w3 v.ownBlock:=hg3
 have hL3:w3.heap[l]? =some (.loop {lP fn s0 fv Bo D .ready none with state:= .busy}):=(hg3'.block l (by simp;omega) (ne_of hL2 (fun cur e=>by cases e))).trans ((Below.heap_alloc _ _ l hl2).trans hL2)
 have hK3:w3.heap[D]? =some (.deferred (some [])):=(hg3'.block D (by simp;omega) (ne_of hK2 (fun cur e=>by cases e))).trans ((Below.heap_alloc _ _ D hDlt).trans hK2)
 have hi3:w3.heap[Bi]? =some (.cells #[c] 51 (0,0)):=(hg3'.block Bi (by simp;omega) (ne_of hi2 (fun cur e=>by cases e))).trans ((Below.heap_alloc _ _ Bi hBilt).trans hi2)
 obtain ⟨w4,hw4⟩: ∃w4,w3.setCell ⟨Bo,0,none⟩ (.slice (some ⟨g',0,none⟩) (ss.length+1) cap')=w4:=⟨_,rfl⟩
 rw [hw4]
 have hg4:w3.grownBy w4 (some Bo):=by rw [<-hw4];exact Nb _ _ _
 have hv4:w4.heap[Bo]? =some (.cells #[.slice (some ⟨g',0,none⟩) (ss.length+1) cap'] 98 (0,0)):=by rw [<-hw4];exact IT _ hv3
 have hL4:w4.heap[l]? =some (.loop {lP fn s0 fv Bo D .ready none with state:= .busy}):=(hg4.block l (ij.1 hL3).1 (fun e=>hBl (by cases e;rfl))).trans hL3
 have hK4:w4.heap[D]? =some (.deferred (some [])):=(hg4.block D (ij.1 hK3).1 (fun e=>hDB (by cases e;rfl))).trans hK3
 have hi4:w4.heap[Bi]? =some (.cells #[c] 51 (0,0)):=(hg4.block Bi (ij.1 hi3).1 (fun e=>hBiBo (by cases e;rfl))).trans hi3
 have hrow4:=hown'.kept hg4 (qh hown' hv3 (fun cur e=>by cases e))
 have hl4:l<w4.heap.size:=(ij.1 hL4).1
 have hb3:Below w0.heap.size w0 w3:=(hb2.alloc hb2.size _).grown hg3' (by have:=hb2.size;simp;omega) (fun k e=>(hrow2.lt k e).1)
 have hb4:Below w0.heap.size w0 w4:=hb3.grown hg4 hb3.size (fun k e=>by cases e;exact h0B)
 clear hw4
 refine ⟨_,_,run_endRound none hL4,rfl,⟨⟨_,(World.putObj_heap_other hBl).trans hv4, ?_⟩,World.putObj_heap_same hl4,(World.putObj_heap_other hDl).trans hK4,hb4.grown (vZ _ _ _) hb4.size (fun k e=>by cases e;exact h0l)⟩,(World.putObj_heap_other hBil).trans hi4⟩
 have:=hrow4.kept (vZ w4 l (.loop {{lP fn s0 fv Bo D .ready none with state:= .busy} with state:=if (none:Option Code).isNone then .ready else .done,pending:=none})) (qh hrow4 hL4 (fun cur e=>by cases e))
 simpa using this
def KS (Bi:Nat) (w:World):Nat:=match w.cell? ⟨Bi,0,none⟩ with
 |some v=>(intOf v).toNat
 |none=>0
theorem RP {Bi:Nat} {w:World} {n:Nat} {t:TypeId} (h:w.heap[Bi]? =some (.cells #[.int .u32 (n:Int)] t (0,0))):KS Bi w=n:=by
 unfold KS;rw [(ra h).1];simp [intOf]
theorem aft {w0 W:World} (hT:TabAt 0 Lib.deBruijn32tab w0) (hb:Below w0.heap.size w0 W):TabAt 0 Lib.deBruijn32tab W:=fun j hj=>by
 have h:=hT j hj
 have h0:0<w0.heap.size:=World.block_lt_of_cell? w0 ⟨0,j,none⟩ h
 exact (hb.cell (p:=⟨0,j,none⟩) h0).trans h
theorem afG (s:Int):bits .and .u32 s 16777215=(((BitVec.ofInt 32 s).toNat&&&16777215:Nat):Int):=by
 have hx:(BitVec.ofInt 32 s).toNat&&&16777215<2^32:=Nat.and_lt_two_pow _ (by omega)
 show IntKind.u32.wrap ((BitVec.ofInt 32 s&&&BitVec.ofInt 32 16777215).toNat:Int)=_
 rw [BitVec.toNat_and,wrap_u32',show (BitVec.ofInt 32 16777215).toNat=16777215 from by decide]
 omega
def lO (s:Int):Nat:=(BitVec.ofInt 32 s).toNat&&&16777215
theorem afH (s:Nat) (h0:s≠0) (h:s<4294967296):bits .and .u32 (s:Int) ((s:Int)-1)=((s&&&(s-1):Nat):Int):=by
 have:(s:Int)-1=((s-1:Nat):Int):=by omega
 rw [this];exact bits_and_u32_nat s (s-1) h (by omega)
set_option maxRecDepth 100000 in
set_option maxHeartbeats 2000000 in
theorem an7 (F:Fence) (n:Nat) (h339:F.fn 339) (h340:F.fn 340) (hro:F.round=none) (hn:1<=n) (w0:World) (fn:FuncId) (hfn:F.fn fn) (s0:Int) (fv:Value) (Bo Bi l D:Nat) (hBl:Bo≠l) (hDl:D≠l) (hDB:D≠Bo) (hBiBo:Bi≠Bo) (hBil:Bi≠l) (hBiD:Bi≠D)
  (h0B:w0.heap.size<=Bo) (h0l:w0.heap.size<=l) (h0i:w0.heap.size<=Bi) (hT:TabAt 0 Lib.deBruijn32tab w0) (s:Int) (W:World) (h:LsAt w0 fn s0 fv Bo l D [] W) (hi0:W.heap[Bi]? =some (.cells #[.int .u32 s] 51 (0,0)))
  (htz: ∀ (x:Nat),x<4294967296->x≠0-> ∀W',TabAt 0 Lib.deBruijn32tab W'->CallsIn F (n-1) Tryz.prog 340 #[.int .u32 x] W' fun e w'=>e= .returned (.int .i64 (Lib.ctz 32 x))/\w'=W'):
  CallsIn F n Tryz.prog 339 #[.func (.yield l) #[] #[],.pointer (some ⟨Bi,0,none⟩)] W fun e W'=>(∃v,e= .returned v)/\LsAt w0 fn s0 fv Bo l D (iA (lO s)) W':=by
 obtain ⟨hc0,hf0⟩:=ra hi0
 have ha:bits .and .u32 s 16777215=((lO s:Nat):Int):=afG s
 have hsl:lO s<16777216:=Nat.lt_of_le_of_lt Nat.and_le_right (by decide)
 generalize lO s=q at ha hsl ⊢
 refine callsIn_of_wp Tryz.func339 rfl h339 ?_ hro
 simp only [Tryz.ntmps339,List.size_toArray,cM,List.length_nil,Nat.reduceAdd,Nat.reduceSub,Array.replicate_succ,Array.replicate_zero,List.push_toArray,List.append_toArray,dG,List.cons_append]
 gi_wp2
 have hi1:=IT (.int .u32 (q:Int)) hi0
 have hA1:LsAt w0 fn s0 fv Bo l D [] (W.setCell ⟨Bi,0,none⟩ (.int .u32 (q:Int))):=by
  obtain ⟨v,hv,hrow⟩:=h.box
  exact ⟨⟨v,(Below.heap_setCell _ _ _ Bo (fun e=>hBiBo e.symm)).trans hv,hrow.kept (Nb _ _ _) (qh hrow hi0 (fun cur e=>by cases e))⟩,(Below.heap_setCell _ _ _ l (fun e=>hBil e.symm)).trans h.L,(Below.heap_setCell _ _ _ D (fun e=>hBiD e.symm)).trans h.K,h.below.setCell h0i _⟩
 gi_loopw [] (fun wr=> ∃ (pre:List Nat) (c:Nat),c<16777216/\pre++iA c=iA q/\LsAt w0 fn s0 fv Bo l D pre wr/\wr.heap[Bi]? =some (.cells #[.int .u32 (c:Int)] 51 (0,0)))
  (fun wr=>KS Bi wr)
 case atStart=>exact ⟨[],q,hsl,rfl,hA1,hi1⟩
 case round=>
  obtain ⟨pre,c,hc,hp,hA,hb⟩:=hrel
  clear hc0 hf0 ha hi1 hA1
  obtain ⟨hc1,hf1⟩:=ra hb
  by_cases hz:c=0
  ·subst hz
   rw [atd,dZ] at hp
   gi_wp2
   go_end0
   exact ⟨⟨_,rfl⟩,hp▸hA⟩
  ·have hne:((c:Int)==0)=false:=by simp;omega
   have hne': ¬ ((c:Int)=0):=by omega
   have hstep:=atf c hz hc
   have hpl:pre.length<24:=by
    have h1:=ate q
    have h2:=congrArg List.length hp
    rw [hstep.1,List.length_append,cM] at h2
    omega
   obtain ⟨fn',tmps,assign,body,hy,hR⟩:=an8 F (n-1) w0 fn hfn s0 fv Bo Bi l D hBl hDl hDB hBiBo hBil h0B h0l pre (Lib.ctz 32 c) (.int .u32 (c:Int)) wr hA hb hpl
   have hT1:=aft hT hA.below
   have hap:=afH c hz (by omega)
   unfold jl at hy
   have hyH:Hid (Lib.ctz 32 c=Lib.ctz 32 c):=rfl
   gi_wp2_with (gi_at_call 340;refine (htz c (by omega) hz _ hT1).mono ?_;rintro e w' ⟨rfl,rfl⟩)
   refine hR.mono ?_
   rintro e W3 ⟨rfl,hA3,hb3⟩
   obtain ⟨hc3,hf3⟩:=ra hb3
   clear hc1 hf1 hA hy hR hT1
   gi_wp2
   have hb4:=IT (.int .u32 ((c&&&(c-1):Nat):Int)) hb3
   have hlt:=hstep.2
   go_roundw
   case rel=>
    refine ⟨pre++[Lib.ctz 32 c],c&&&(c-1),by omega, ?_, ?_,hb4⟩
    ·rw [<-hp,hstep.1,List.append_assoc];rfl
    ·obtain ⟨v,hv,hrow⟩:=hA3.box
     exact ⟨⟨v,(Below.heap_setCell _ _ _ Bo (fun e=>hBiBo e.symm)).trans hv,hrow.kept (Nb _ _ _) (qh hrow hb3 (fun cur e=>by cases e))⟩,(Below.heap_setCell _ _ _ l (fun e=>hBil e.symm)).trans hA3.L,(Below.heap_setCell _ _ _ D (fun e=>hBiD e.symm)).trans hA3.K,hA3.below.setCell h0i _⟩
   case measure=>rw [RP hb4,RP hb];exact hlt
set_option maxRecDepth 100000 in
set_option maxHeartbeats 2000000 in
theorem an3 (F:Fence) (n:Nat) (h314:F.fn 314) (h333:F.fn 333) (h339:F.fn 339) (h340:F.fn 340) (hro:F.round=none) (hn:3<=n) (s:Int) (w:World) (hT:TabAt 0 Lib.deBruijn32tab w)
  (hin: ∀W,CallsIn F (n-1) Tryz.prog 333 #[.int .u32 s] W fun e w'=>e= .returned (.func (.func 339) #[] #[.pointer (some ⟨W.heap.size,0,none⟩)])/\w'=W.alloc (.cells #[.int .u32 s] 51))
  (htz: ∀ (x:Nat),x<4294967296->x≠0-> ∀W',TabAt 0 Lib.deBruijn32tab W'->CallsIn F (n-1-1) Tryz.prog 340 #[.int .u32 x] W' fun e w'=>e= .returned (.int .i64 (Lib.ctz 32 x))/\w'=W'):
  CallsIn F n Tryz.prog 314 #[.int .u32 s] w fun e w'=> ∃v:Value,e= .returned v/\w'.ownsRow w.heap.size 3 1 v (iA (lO s)).length ((iA (lO s)).map jl)/\Below w.heap.size w w':=by
 have h1:1<=n:=by omega
 have eg: ∀args w,(callFunc 339 args).run Tryz.prog w= .ok (.enter 339 args) w:=enters_of Tryz.func339 (by kernel_rfl) rfl
 refine callsIn_of_wp_marks Tryz.func314 rfl h314 ?_ hro
 simp only [Tryz.ntmps314,List.size_toArray,cM,List.length_nil,Nat.reduceAdd,Nat.reduceSub,Array.replicate_succ,Array.replicate_zero,List.push_toArray,List.append_toArray,dG,List.cons_append]
 gi_wp2_with (gi_at_call 333;refine (hin _).mono ?_;rintro e w' ⟨rfl,rfl⟩)
 refine wpIn_rangeFunc ?_
 intro fn hfn
 rw [hro]
 obtain ⟨fv,hfv⟩: ∃fv:Value,fv= .func (.func 339) #[] #[.pointer (some ⟨w.heap.size+1,0,none⟩)]:=⟨_,rfl⟩
 obtain ⟨W0,hW0⟩: ∃W0,(w.alloc (.cells #[.slice none 0 0] 98)).alloc (.cells #[.int .u32 s] 51)=W0:=⟨_,rfl⟩
 have hs0:W0.heap.size=w.heap.size+2:=by rw [<-hW0];simp
 have hv0:W0.heap[w.heap.size]? =some (.cells #[.slice none 0 0] 98 (0,0)):=by rw [<-hW0];exact (Below.heap_alloc _ _ _ (by simp)).trans (World.alloc_heap_new w _)
 have hi0:W0.heap[w.heap.size+1]? =some (.cells #[.int .u32 s] 51 (0,0)):=by
  rw [<-hW0];have:=World.alloc_heap_new (w.alloc (.cells #[.slice none 0 0] 98)) (.cells #[.int .u32 s] 51);rwa [World.size_alloc] at this
 have hb0:Below w.heap.size w W0:=by rw [<-hW0];exact ((Below.refl _ w).alloc (dC _) _).alloc (by simp) _
 rw [hW0]
 obtain ⟨W1,hW1⟩: ∃W1,(W0.alloc (.deferred (some []))).alloc (.loop (lP fn s fv w.heap.size W0.heap.size .ready none))=W1:=⟨_,rfl⟩
 have hold: ∀k,k<W0.heap.size->W1.heap[k]? =W0.heap[k]? :=fun k hk=>by
  rw [<-hW1];exact (Below.heap_alloc _ _ k (by simp;omega)).trans (Below.heap_alloc _ _ k hk)
 have hb1:Below w.heap.size w W1:=by rw [<-hW1];exact (hb0.alloc hb0.size _).alloc (by have:=hb0.size;simp;omega) _
 have hM:LsAt w fn s fv w.heap.size (W0.heap.size+1) W0.heap.size [] W1:=
  ⟨⟨_,(hold w.heap.size (by omega)).trans hv0,⟨rfl,.inl ⟨rfl,rfl⟩⟩⟩,
   by rw [<-hW1];have:=World.alloc_heap_new (W0.alloc (.deferred (some []))) (.loop (lP fn s fv w.heap.size W0.heap.size .ready none));rwa [World.size_alloc] at this,
   by rw [<-hW1];exact (Below.heap_alloc _ _ _ (by simp)).trans (World.alloc_heap_new W0 _),hb1⟩
 refine ⟨W0.heap.size+1,[{target:= .collected W0.heap.size,args:= #[]}],W1,{target:= .fn (.func 339) #[.pointer (some ⟨w.heap.size+1,0,none⟩)],args:= #[.func (.yield (W0.heap.size+1)) #[] #[]]},W1,339,
  #[.func (.yield (W0.heap.size + 1)) #[] #[]] ++ #[.pointer (some ⟨w.heap.size + 1, 0, none⟩)], W1, ?_, ?_, ?_, ?_, fun _ => h1, ?_⟩
 ·rw [<-hW1,hfv];exact run_enterLoop_outer _ _ _ _ _
 ·simp [resolve,go_sem]
 ·intro f' hf';simp [Target.leads] at hf';subst hf';exact h339
 ·simp [invoke,go_sem,eg]
 ·refine (an7 F (n-1) h339 h340 hro (by omega) w fn hfn s fv w.heap.size (w.heap.size+1) (W0.heap.size+1) W0.heap.size (by omega) (by omega) (by omega) (by omega) (by omega) (by omega) (dC _) (by omega) (by omega) hT s W1 hM ((hold _ (by omega)).trans hi0) htz).mono ?_
  rintro e W2 ⟨⟨v0,rfl⟩,h2⟩
  obtain ⟨v,hv,hrow⟩:=h2.box
  have hend:=run_endLoop (P:=Tryz.prog) h2.L (by simp [lP])
  obtain ⟨W3,hW3⟩: ∃W3,W2.putObj (W0.heap.size+1) (.loop {lP fn s fv w.heap.size W0.heap.size .ready none with state:= .exhausted})=W3:=⟨_,rfl⟩
  rw [hW3] at hend
  have hg3:W2.grownBy W3 (some (W0.heap.size+1)):=by rw [<-hW3];exact vZ _ _ _
  have hv3:W3.heap[w.heap.size]? =some (.cells #[v] 98 (0,0)):=by rw [<-hW3];exact (World.putObj_heap_other (by omega)).trans hv
  have hK3:W3.heap[W0.heap.size]? =some (.deferred (some [])):=by rw [<-hW3];exact (World.putObj_heap_other (by omega)).trans h2.K
  have hrow3:=hrow.kept hg3 (qh hrow h2.L (fun cur e=>by cases e))
  have hb3:Below w.heap.size w W3:=h2.below.grown hg3 h2.below.size (fun k e=>by cases e;omega)
  obtain ⟨hc3,hf3⟩:=ra hv3
  clear hW3
  refine ⟨none,W3,hend, ?_⟩
  clear hfv
  gi_wp2
  rw [show (w.heap.size+1+1)=W0.heap.size by omega]
  refine ⟨by simp,.inl ⟨_,_,rfl,run_takeDeferred hK3, ?_⟩⟩
  exact ⟨_,results_tmp rfl _ _ _,v,rfl,hrow3.kept (vZ _ _ _) (qh hrow3 hK3 (fun cur e=>by cases e)),hb3.grown (vZ _ _ _) hb3.size (fun k e=>by cases e;omega)⟩
end Go.Proofs.YtgajalidbabccaaGreatDoor
namespace Go.Proofs.YtgajalidbabccaaGreatDoor
open Go PI Go.Shelf Go.RowKit
set_option maxRecDepth 100000
def ao (o:Obj):Prop:= ∃ (cur:Array Value) (e:TypeId) (fr:Nat×Nat),o= .cells cur e fr/\ ∀j,j<Lib.deBruijn32tab.length->cur[j]? =some (.int .u8 (Lib.deBruijn32tab.getD j 0))
theorem asX {o:Obj} (ho:ao o) {w:World} (h:w.heap[0]? =some o):TabAt 0 Lib.deBruijn32tab w:=fun j hj=>by
 obtain ⟨cur,e,fr,rfl,hc⟩:=ho
 have:=hc j hj
 simp [World.cell?,h,this]
theorem an2 (s:Int) (w:World) (hT:TabAt 0 Lib.deBruijn32tab w):Calls Tryz.prog 314 #[.int .u32 s] w fun e w'=> ∃v:Value,e= .returned v/\w'.ownsRow w.heap.size 3 1 v (iA (lO s)).length ((iA (lO s)).map jl)/\Below w.heap.size w w':=
 callsIn_wide.1 (an3 Fence.wide 5 trivial trivial trivial trivial rfl (by omega) s w hT (fun W=>callsIn_wide.2 (akt s W)) fun x hx h0 W' hT'=>callsIn_wide.2 (Tryz.tz32 x hx h0 W' hT'))
theorem aob (s:Int):vS s=(iA (lO s)).map fun n:Nat=>(n:Int):=by
 unfold vS iA lO
 have:(dB 24).filter ((BitVec.ofInt 32 s).toNat&&&16777215).testBit=(dB 24).filter fun i=>(BitVec.ofInt 32 s).getLsbD i:=List.filter_congr fun i hi=>by
  have hi:i<24:=List.mem_range.1 hi
  have h24:(16777215:Nat)=2^24-1:=by decide
  rw [Nat.testBit_and,h24,Nat.testBit_two_pow_sub_one,decide_eq_true hi,Bool.and_true];rfl
 rw [this];rfl
theorem afN {X:Link VV Tryz.prog} {w w':World} {vs:Array Value} {N0:bm} {ν:Nat->Nat} {δ:Nat->Option Nat} {ο:Nat->Array Value} {args:List PU} (hg:Given X w vs N0 ν δ ο args []) (hb:Below w.heap.size w w'):
  Back X w w' N0 ν δ ο 0 args.length ν (fun _=>none) [] where
 ext:=⟨hb.os,hb.tape,hb.output,hb.size,fun b hlt _=>hb.block b hlt⟩
 le:=dC _
 old:=fun i h=>absurd h (Nat.not_lt_zero i)
 new:=fun i _ h=>absurd h (Nat.not_lt_zero i)
 dnew:=fun j b h=>by cases h
 bnd:={
  inj:=fun i j h=>absurd h (Nat.not_lt_zero i)
  lt:=fun i h=>absurd h (Nat.not_lt_zero i)
  dlt:=fun j b h=>by cases h
  dinj:=fun i j b h=>by cases h
  dν:=fun j b h=>by cases h
  n0:=fun b o h=>⟨Nat.lt_of_lt_of_le (hg.bnd.n0 b o h).1 hb.size,fun i h=>absurd h (Nat.not_lt_zero i),fun j h=>by cases h⟩}
 boxes:=fun k b h=>by simp at h
theorem as7 {S:Type} (o:Obj) (ho:ao o) (vs:List PU) (bs:List (Box UU)) (κ:Out UU->Option S) (x:S) (h:MJ vs bs κ=some x): ∃out,dm (LL o) ajN vs bs out/\κ out=some x:=by
 unfold MJ at h
 split at h
 case h_2=>cases h
 rename_i κ y
 refine ⟨_, ?_,h⟩
 refine ⟨⟨Tryz.f314,Tryz.func314,by kernel_rfl,rfl⟩,fun w vs N0 ν δ ο hg=> ?_⟩
 have hs:vs.size=1:=hg.size
 have h0:=hg.args 0 _ rfl
 obtain ⟨v0,hv0⟩: ∃v0,vs= #[v0]:=by
  obtain ⟨l⟩:=vs
  match l,hs with
  |[v],_=>exact ⟨v,rfl⟩
 subst hv0
 have h0:Rep (LL o) w _ _ v0 (.int .u32 y):=h0
 cases h0
 have hT:=asX ho (hg.glob 0 o (by simp [LL])).1
 refine (an2 y w hT).mono ?_
 rintro e w' ⟨v,rfl,hrow,hb⟩
 refine ⟨ν,fun _=>none,afN hg hb, ?_⟩
 show Rep (LL o) w' _ _ v (.sl ET.I (vS y) .none)
 rw [aob]
 generalize iA (lO y)=ts at hrow
 obtain ⟨hl,hr⟩:=hrow
 rcases hr with ⟨rfl,hn⟩|⟨g,cap,cur,rfl,hg0,hgb,hc,hc',hsz,htk⟩
 ·have:ts=[]:=kj.1 hn
  subst this
  exact .sl none 0 0 _ _ _ (fun _ _=>undef) rfl (dC _) trivial (fun j x hx=>by cases hx) (fun j x hx=>by cases hx)
 ·have hcell: ∀j x,(ts.map fun n:Nat=>(n:Int))[j]? =some x->cur.getD j undef= .int .i64 x/\w'.cell? ⟨g,j,none⟩=some (.int .i64 x):=by
   intro j x hx
   rw [List.getElem?_map] at hx
   cases ht:ts[j]? with
   |none=>rw [ht] at hx;cases hx
   |some n=>
    rw [ht] at hx
    injection hx with hx
    have hj:j<ts.length:=(gy.1 ht).1
    have h1:(cur.toList.take (ts.length*1))[j]? =some (jl n):=by rw [htk,List.getElem?_map,ht];rfl
    rw [List.getElem?_take_of_lt (by omega)] at h1
    have h2:cur[j]? =some (.int .i64 x):=by rw [<-Array.getElem?_toList,h1,<-hx];rfl
    refine ⟨?_,by simp [World.cell?,hgb,h2]⟩
    rw [iJ,h2];rfl
  refine Rep.sl (X:=LL o) (some ⟨g,0,none⟩) ts.length cap ET.I (show List Int from ts.map fun n:Nat=>(n:Int)) .none (fun j k=>cur.getD (j+k) undef) (List.length_map _) hc trivial (fun j x hx k p hp=> ?_) (fun j x hx k p hp=> ?_)
  ·match k,hp with
   |0,hp=>
    obtain ⟨h1,h2⟩:=hcell j x hx
    refine ⟨_,rfl, ?_, ?_⟩
    ·have:(⟨g,0,none⟩:Addr).add (j*(LL o).esize ET.I+0)=⟨g,j,none⟩:=by
      rw [Addr.add_lit'];show (⟨g,0+(j*1+0),none⟩:Addr)=_;congr 1;omega
     rw [this,h2];rw [Nat.add_zero,h1]
    ·rintro (hN|⟨i,hi,_⟩|⟨i,hi⟩)
     ·have:=(hg.bnd.n0 _ _ hN).1
      simp at this;omega
     ·exact absurd hi (Nat.not_lt_zero i)
     ·cases hi
   |k+1,hp=>simp [VV,gg] at hp
  ·match k,hp with
   |0,hp=>
    obtain ⟨h1,h2⟩:=hcell j x hx
    rw [Nat.add_zero,h1]
    have:p= .int .i64 x:=by simpa [VV,gg] using hp.symm
    subst this
    exact .int _ _
   |k+1,hp=>simp [VV,gg] at hp
open Go.Sort
def rf (a b:Int):Int:=if a<b then-1 else if b<a then 1 else 0
def mj (x y:Cl):Int:=if x.pos=y.pos then rf x.neg y.neg else rf x.pos y.pos
def io (x:Cl):List Value:=[.int .u32 x.pos,.int .u32 x.neg]
theorem Kr (a:Int) (W:World):Calls Tryz.prog 313 #[.int .u32 a] W fun e w'=>e= .returned (.bool false)/\w'=W:=by
 go_enter Tryz.func313,Tryz.ntmps313
 go_wp2
 go_ret
 exact ⟨by simp,rfl⟩
set_option maxHeartbeats 1000000 in
theorem Px (a b:Int) (W:World):Calls Tryz.prog 281 #[.int .u32 a,.int .u32 b] W fun e w'=>e= .returned (.int .i64 (rf a b))/\w'=W:=by
 unfold rf
 by_cases h1:a<b
 ·rw [if_pos h1]
  go_enter Tryz.func281,Tryz.ntmps281
  go_wp2_with (go_at_call 313;refine (Kr _ _).mono ?_;rintro e w' ⟨rfl,rfl⟩)
  go_ret
  exact ⟨rfl,rfl⟩
 ·rw [if_neg h1]
  by_cases h2:b<a
  ·rw [if_pos h2]
   go_enter Tryz.func281,Tryz.ntmps281
   go_wp2_with (go_at_call 313;refine (Kr _ _).mono ?_;rintro e w' ⟨rfl,rfl⟩)
   go_ret
   exact ⟨rfl,rfl⟩
  ·rw [if_neg h2]
   go_enter Tryz.func281,Tryz.ntmps281
   go_wp2_with (go_at_call 313;refine (Kr _ _).mono ?_;rintro e w' ⟨rfl,rfl⟩)
   go_ret
   exact ⟨rfl,rfl⟩
set_option maxHeartbeats 1000000 in
theorem agq (x y:Cl) (W:World):Calls Tryz.prog 231 #[.agg (io x).toArray,.agg (io y).toArray] W fun e w'=>e= .returned (.int .i64 (mj x y))/\ ∃q os',w'=grow (W.drewN q) os':=by
 obtain ⟨a,b⟩:=x
 obtain ⟨a',b'⟩:=y
 have h1:=Px a a'
 have h2:=Px b b'
 unfold mj
 simp only [io]
 generalize rf a a'=r1 at h1 ⊢
 generalize rf b b'=r2 at h2 ⊢
 by_cases h:a=a'
 ·rw [if_pos h]
  go_enter Tryz.func231,Tryz.ntmps231
  go_wp2_with (go_at_call 281;refine (h2 _).mono ?_;rintro e w' ⟨rfl,rfl⟩)
  go_ret
  exact ⟨rfl,0,_,by rw [alloc_eq_grow,alloc_eq_grow,grow_grow];rfl⟩
 ·rw [if_neg h]
  go_enter Tryz.func231,Tryz.ntmps231
  go_wp2_with (go_at_call 281;refine (h1 _).mono ?_;rintro e w' ⟨rfl,rfl⟩)
  go_ret
  exact ⟨rfl,0,_,by rw [alloc_eq_grow,alloc_eq_grow,grow_grow];rfl⟩
theorem zT (x y:Cl):ltOf mj x y=(decide (x.pos<y.pos)||(decide (x.pos=y.pos)&&decide (x.neg<y.neg))):=by
 have h:mj x y<0↔(x.pos<y.pos\/x.pos=y.pos/\x.neg<y.neg):=by
  unfold mj rf
  split<;>split<;>first|omega|(split<;>omega)
 rw [Bool.eq_iff_iff]
 simp only [ltOf,decide_eq_true_eq,Bool.or_eq_true,aZ]
 exact h
theorem asW:SWO (ltOf mj) where
 irrefl x:=by rw [zT];simp
 trans x y z h1 h2:=by rw [zT] at*;simp at*;omega
 ntrans x y z h1 h2:=by rw [zT] at*;simp at*;omega
theorem as_ (x y:Cl) (h1:ltOf mj x y=false) (h2:ltOf mj y x=false):x=y:=by
 rw [zT] at*;simp at*
 obtain ⟨a,b⟩:=x
 obtain ⟨a',b'⟩:=y
 simp at*
 omega
theorem aka:(fun x y:Cl=> !ltOf mj y x)=oZ:=by
 funext x y
 rw [zT,Bool.eq_iff_iff]
 simp [oZ]
 omega
instance:Inhabited Cl:=⟨⟨0,0⟩⟩
theorem asA (b c:Nat) (d:List Cl) (w:World) (hH:HoldsK io 2 w b 0 d.toArray) (hb:b<w.heap.size) (hsz:d.length<4611686018427387904):
  Calls Tryz.prog 230 #[.slice (some ⟨b,0,none⟩) d.length c,.func (.func 231) #[] #[]] w fun e w'=>e= .returned (.tuple #[])/\ ∃n os,w'=sortWorldK io 2 w b 0 n (sortCl d).toArray os:=by
 have eg: ∀args w,(callFunc 231 args).run Tryz.prog w= .ok (.enter 231 args) w:=enters_of Tryz.func231 (by kernel_rfl) rfl
 have h:=AnyQ.slices_SortFunc_total Tryz.sortCl 2 Tryz.isAgg53 Tryz.sizeOf53 io (fun _=>rfl) (fun x v hv=>by simp [io] at hv;rcases hv with rfl|rfl<;>rfl) mj asW 231 #[] b 0 c d.toArray w eg (fun _ _ _ _ x y=>agq x y _) hH hb hsz as_
 rw [aka] at h
 exact h
theorem asD (p:Option Addr) (c:Nat) (w:World):Calls Tryz.prog 230 #[.slice p 0 c,.func (.func 231) #[] #[]] w fun e w'=>e= .returned (.tuple #[])/\w'=w:=
 AnyF.slices_SortFunc_none Tryz.sortCl p c _ w
theorem asz {m:Nat} {d:Array Cl} {os:Array Obj} {w:World} {b k:Nat} (hk:k<w.heap.size) (hne:k≠b):(sortWorldK io 2 w b 0 m d os).heap[k]? =w.heap[k]? :=by
 unfold sortWorldK putRowK putRow mapBlock
 rw [heap_grow_old _ _ (by simpa [ahead] using hk)]
 show (w.heap.modify b _)[k]? =_
 rw [Array.getElem?_modify,if_neg (Ne.symm hne)]
theorem asy {m:Nat} {d:Array Cl} {os:Array Obj} {w:World} {b:Nat} {cur:Array Value} {e:TypeId} {fr:Nat×Nat} (h:w.heap[b]? =some (.cells cur e fr)):
  (sortWorldK io 2 w b 0 m d os).heap[b]? =some (.cells (putCells id 0 (flatK io 2 d) cur) e fr):=by
 have hb:b<w.heap.size:=(ij.1 h).1
 unfold sortWorldK putRowK putRow mapBlock
 rw [heap_grow_old _ _ (by simpa [ahead] using hb)]
 show (w.heap.modify b _)[b]? =_
 rw [Array.getElem?_modify,if_pos rfl,h];rfl
theorem ago (x:Cl) {k:Nat} {p:PU} (hp:(gg .C x)[k]? =some p):k<2/\ ∀ (X:Link VV Tryz.prog) (w:World) (N:bm) (g:Gh UU),Rep X w N g (io x)[k]! p:=by
 match k,hp with
 |0,hp=>cases hp;exact ⟨by omega,fun X w N g=> .int _ _⟩
 |1,hp=>cases hp;exact ⟨by omega,fun X w N g=> .int _ _⟩
 |k+2,hp=>simp [gg] at hp
theorem akk {w:World} {b c:Nat} {l:List Cl} {cur:Array Value} {e:TypeId} (hb:w.heap[b]? =some (.cells cur e (0,0))) (hs:cur.size=c*2) (hl:l.length<=c) (h: ∀ (j:Nat) (x:Cl),l[j]? =some x-> ∀k,k<2->w.cell? ⟨b,j*2+k,none⟩=some (io x)[k]!):HoldsK io 2 w b 0 l.toArray:=by
 intro t ht
 rw [size_flatK] at ht
 have ht':t<l.length*2:=by simpa using ht
 have hj:t/2<l.length:=by omega
 have hx:l[t/2]? =some l.toArray[t/2]! :=by simp [hj]
 refine ⟨?_, ?_⟩
 ·rw [get_flatK _ _ _ _ ht]
  have:=h _ _ hx (t%2) (Nat.mod_lt _ (by omega))
  rw [g7]
  rw [show t/2*2+t%2=t by omega] at this
  exact this
 ·simp [World.frozen?,hb]
theorem akx {f:Nat} {ps:List PU} {l l':List Cl} (h:Ko f ps l=some l'):f=230/\ps=[.func 231 [] []]/\l'=sortCl l:=by
 unfold Ko at h
 split at h
 ·injection h with h
  exact ⟨rfl,rfl,h.symm⟩
 ·cases h
theorem Fq (o:Obj):oS (LL o):=by
 intro f ps e l l' h
 have hi:Q4 f ps e l=some l':=h
 clear h
 cases e with
 |T=>cases hi
 |B=>cases hi
 |I=>cases hi
 |F=>cases hi
 |C=>
 obtain ⟨rfl,rfl,rfl⟩:=akx hi
 refine ⟨⟨Tryz.f230,Tryz.func230,by kernel_rfl,rfl⟩,fun w vs N0 δ ο hg hδ=> ?_⟩
 have hs:vs.size=2:=hg.size
 obtain ⟨v0,v1,rfl⟩: ∃v0 v1,vs= #[v0,v1]:=by
  obtain ⟨l⟩:=vs
  match l,hs with
  |[v,v'],_=>exact ⟨v,v',rfl⟩
 have h0:ObOK (LL o) w (NB N0 0 (fun _=>0) δ) (gB UU 0 fun _=>0) ET.C l v0 .wr (δ 0):=hg.args 0 _ rfl
 have h1:Rep (LL o) w (NB N0 0 (fun _=>0) δ) (gB UU 0 fun _=>0) v1 (.func 231 [] []):=hg.args 1 _ rfl
 cases h1 with
 |func _ _ _ xs ys ha hb _ _=>
 have ha':xs= #[]:=by simpa using ha
 have hb':ys= #[]:=by simpa using hb
 subst ha';subst hb'
 obtain ⟨A,n,c,rfl,hl,hc,hcell,hm⟩:=h0.val
 have hl: @List.length Cl l=n:=hl
 cases hD:δ 0 with
 |none=>
  rw [hD] at hm hcell
  obtain ⟨rfl,rfl,rfl⟩:=hm.1 rfl
  have:l=([]:List Cl):=kj.1 hl
  subst this
  refine (asD none 0 w).mono ?_
  rintro e w' ⟨rfl,rfl⟩
  refine ⟨rfl,.refl _ _, ?_⟩
  rw [hD] at h0
  have:sortCl []=[]:=by simp [sortCl]
  rw [this]
  exact h0
 |some b=>
  rw [hD] at hm hcell
  obtain ⟨hu,cur,rfl,hblk,hsz,hmax⟩:=hm
  have hbl:b<w.heap.size:=(ij.1 hblk).1
  have hcs:cur.size=c*2:=hsz
  have hH:HoldsK io 2 w b 0 l.toArray:=akk hblk hcs (hl▸hc) fun j x hx k hk=>by
   have hp: ∃p,(gg ET.C x)[k]? =some p/\p= .int .u32 (if k=0 then x.pos else x.neg):=by
    match k,hk with
    |0,_=>exact ⟨_,rfl,rfl⟩
    |1,_=>exact ⟨_,rfl,rfl⟩
   obtain ⟨p,hp,hpe⟩:=hp
   obtain ⟨a,v,ha,hv,hr,_⟩:=hcell j x hx k p hp
   injection ha with ha
   subst ha
   subst hpe
   have hv':w.cell? ⟨b,j*2+k,none⟩=some v:=by
    have:(⟨b,0,none⟩:Addr).add (j*(LL o).esize ET.C+k)=⟨b,j*2+k,none⟩:=by
     rw [Addr.add_lit'];show (⟨b,0+(j*2+k),none⟩:Addr)=_;congr 1;omega
    rw [this] at hv;exact hv
   rw [hv']
   cases hr
   match k,hk with
   |0,_=>rfl
   |1,_=>rfl
  have hlt: @List.length Cl l<4611686018427387904:=by
   have:n<=1099511627776:=hmax.2
   omega
  have hcall:=asA b c l w hH hbl hlt
  have he:(.slice (some ⟨b,0,none⟩) (@List.length Cl l) c:Value)= .slice (some ⟨b,0,none⟩) n c:=by rw [hl]
  rw [he] at hcall
  refine hcall.mono ?_
  rintro e w' ⟨rfl,m,os,rfl⟩
  have hlen:(sortCl l).length= @List.length Cl l:=List.length_mergeSort _
  have hH':=holdsK_sortWorldK_c io 2 w b 0 l.toArray (sortCl l).toArray m os hH hbl hlen
  refine ⟨rfl,⟨rfl,rfl,rfl,size_sortWorldK_c io 2 w b 0 m _ os,fun k hk hne=>asz hk fun e=>hne ?_⟩, ?_⟩
  ·subst e
   exact List.mem_append_right _ (List.mem_filterMap.2 ⟨0,by simp,hD⟩)
  ·refine ⟨_,n,c,rfl,hlen.trans hl,hc,fun j x hx k p hp=> ?_, ?_⟩
   ·obtain ⟨hk,hrep⟩:=ago x hp
    have hj:j<(sortCl l).length:=(gy.1 hx).1
    have:=(hH'.cell (i:=j) (c:=k) (by simpa using hj) hk).1
    have he:(sortCl l).toArray[j]! =x:=by
     have:=gy.1 hx
     rw [getElem!_pos _ j (by simpa using hj)];exact this.2
    rw [he] at this
    refine ⟨_,_,rfl, ?_,hrep _ _ _ _,fun h=>by cases h⟩
    have e:(⟨b,0,none⟩:Addr).add (j*(LL o).esize ET.C+k)=⟨b,0+j*2+k,none⟩:=by
     rw [Addr.add_lit'];show (⟨b,0+(j*2+k),none⟩:Addr)=_;congr 1;omega
    show World.cell? _ (Addr.add _ _)=_
    rw [e];exact this
   ·exact ⟨hu,_,rfl,asy hblk,by simp [putCells];exact hcs,hmax⟩
end Go.Proofs.YtgajalidbabccaaGreatDoor
namespace Go.Proofs.YtgajalidbabccaaGreatDoor
open Go PI Go.ChangeShapes Go.WideShapes Go.ChangeAt Go.RowKit
set_option maxRecDepth 100000
theorem own:ownKnob Tryz.prog.godebug=none:=by kernel_rfl
theorem QF:Tryz.prog.globalNamed "math/bits.deBruijn32tab" =some 0:=by kernel_rfl
section
variable {H:Type} {enc:TypeId×Value->H}
structure Kept (W W':World):Prop where
 os:W'.os=W.os
 output:W'.output=W.output
 size:W.heap.size<=W'.heap.size
 block: ∀b,b<W.heap.size->W'.heap[b]? =W.heap[b]?
theorem Kept.sameAt {W W':World} (h:Kept W W') {p:MemPlace} (hp:p.block<W.heap.size):W.sameAt W' p:=by
 cases p with
 |cell b o=>simp only [World.sameAt,World.cell?];rw [h.block b hp]
 |map b=>exact h.block b hp
theorem Kept.kept {W W':World} (h:Kept W W') (may:MemPlace->Prop):W.keptBut W' may:=by
 refine ⟨h.os,h.output,fun i hi=> ?_⟩
 rw [h.block i hi]
 cases W.heap[i]? with
 |none=>rfl
 |some o=>cases o with
  |cells c t fr=>exact ⟨rfl,rfl,rfl,fun _ _=>rfl⟩
  |map es clock=>exact .inr ⟨rfl,rfl⟩
  |_=>rfl
theorem Pd {W W':World} {sp:Nat->Bool} {held:Bool}: ∀ {ts:List TypeId} {vs:List Value} {ds:List (DataW H)} {ps:List MemPlace},
  DataW.TrodAll enc Tryz.prog W 0 sp held ts vs ds ps->(∀p∈ps,W.sameAt W' p)->DataW.TrodAll enc Tryz.prog W' 0 sp held ts vs ds ps
 |[],[],[],_,h,_=>h
 |_::_,_::_,_::_,_,⟨p,q,⟨n,h1⟩,h2,e⟩,hs=>
  ⟨p,q,⟨n,DataW.trod_carry n _ _ _ h1 fun x hx=>hs x (by rw [e];exact List.mem_append_left _ hx)⟩,Pd h2 (fun x hx=>hs x (by rw [e];exact List.mem_append_right _ hx)),e⟩
theorem kids:Kids Tryz.prog (· <Tryz.prog.types.size):=kids_rows (by kernel_rfl) (by kernel_rfl)
theorem full: ∀t e,t<Tryz.prog.types.size->Tryz.prog.underlying t=some (.slice e)->0<Tryz.prog.cellsOf e:=slices_full_of Tryz.prog (by kernel_rfl)
theorem apj {f:Func} {s:ChangeSpec} (hv:s.vars=[]) {fG fresh handsOn again:Bool} {W W':World} {args:Array Value} {ds gs:List (DataW H)} {before:List MemPlace} (hf:f.resultTypes= #[4])
  (hT: ∀t∈f.params.toList,t<Tryz.prog.types.size) (hs:s.fn H ds={results:=[.lit (.bool true)],args:=ds})
  (hW:DataW.Whole enc Tryz.prog f.params.toList s.vars fG W args.toList ds gs before) (hk:Kept W W'):s.post enc Tryz.prog f fG fresh handsOn again W args (.bool true) W':=by
 have hold: ∀p∈before,(fun b=>decide (b<W.heap.size)) p.block=true:=fun p hp=>by simpa using hW.lt p hp
 have hlt: ∀p∈before,p.block<W.heap.size:=fun p hp=>by simpa using hW.lt p hp
 have hW0:=hW
 obtain ⟨p,q,hA,hV,rfl,hz,hn⟩:=hW
 rw [hv] at hV
 obtain ⟨rfl,rfl⟩:=trodVars_none hV
 rw [dZ] at hold hlt hz hn hW0
 have hs':s.fn H (ds++[])={results:=[.lit (.bool true)],args:=ds}:=by rw [dZ];exact hs
 have hr:(Value.bool true).resultList f.resultTypes.size=[.bool true]:=by rw [hf];rfl
 have hres: ∀ (b:Nat) (sp:Nat->Bool) (hd:Bool),DataW.TrodAll enc Tryz.prog W' b sp hd f.resultTypes.toList ((Value.bool true).resultList f.resultTypes.size) (s.fn H (ds++[])).results []:=fun b sp hd=>by
  rw [hr,hs',hf]
  exact trodAll_cons_mk (shut_bool Tryz.underlying4 _) trodAll_mk0
 have hargs: ∀sp:Nat->Bool,(∀p'∈p,sp p'.block=true)->DataW.TrodAll enc Tryz.prog W' 0 sp true f.params.toList args.toList (s.fn H (ds++[])).args p:=fun sp hsp=>by
  rw [hs']
  exact DataW.TrodAll.respare kids full hT (Pd hA fun x hx=>hk.sameAt (hlt x hx)) hsp
 have hvars: ∀sp:Nat->Bool,DataW.TrodVars enc Tryz.prog W' sp s.vars (s.fn H (ds++[])).vars []:=fun sp=>by rw [hv,hs'];rfl
 refine ⟨ds,[],p,[],p,[],hW0,hres _ _ _,hargs _ hold,hvars _,World.keptBut_mono (fun p' hp=>hp.elim) (hk.kept fun _=>False),fun _=> ?_⟩
 refine ⟨fun j t r h1 h2=> ?_,_,_,([]++p)++[],⟨[]++p,[],trodAll_append (hargs _ (fun _ _=>rfl)) (hres _ _ _),hvars _,rfl, ?_, ?_⟩, ?_⟩
 ·rw [hf] at h1
  rw [hr] at h2
  match j,h1,h2 with
  |0,h1,h2=>cases h1;cases h2;exact okWide_bool_mk Tryz.underlying4 _
  |j+1,h1,h2=>simp at h2
 ·intro b off hp
  have hp':MemPlace.cell b off∈p:=by simpa using hp
  have:=hz b off hp'
  simp only [World.frozen?] at this ⊢
  rw [hk.block b (hlt _ hp')]
  exact this
 ·intro ha
  have:=hn ha
  simpa using this
 ·intro p' hp _
  simpa using hp
variable {w:World} {spare:Nat->Bool} {held:Bool} {o:Obj} {N:bm} {g:Gh UU}
theorem afv {v:Value} {n:Nat} (h:v.cells.toList.length=n+2): ∃vs:Array Value,v= .agg vs/\vs.toList=v.cells.toList:=by
 cases v with
 |agg vs=>exact ⟨vs,rfl,rfl⟩
 |_=>simp [Value.cells] at h
theorem afK (hN: ∀b o,¬N b o) {v:Value} {d:DataW H} {ps:List MemPlace} (h:DataW.Trod enc Tryz.prog w 0 spare held 26 v d ps): ∃t:Tm,Rep (LL o) w N g v (.agg (gg ET.T t))/\QT t d:=by
 obtain ⟨n,hn⟩:=h
 obtain ⟨t,hr,hq⟩:=(ao4 (o:=o) (g:=g) hN n).1 _ _ _ hn
 obtain ⟨_,_,_,_,hl,_,_⟩:=DataW.trod_struct Tryz.underlying26 hn
 have hl6:v.cells.toList.length=6:=hl.trans (by kernel_rfl)
 obtain ⟨vs,rfl,hvs⟩:=afv (n:=4) hl6
 refine ⟨t,Rep.agg (X:=LL o) vs (gg ET.T t) (by rw [<-Array.length_toList,hvs,hl6];rfl) fun j p hp=> ?_,hq⟩
 obtain ⟨v',hv',hr'⟩:=hr j p hp
 have:vs.getD j undef=v':=by
  have h2:vs[j]? =some v':=by rw [<-Array.getElem?_toList,hvs];exact hv'
  rw [iJ,h2];rfl
 rw [this];exact hr'
theorem akb {o:Obj} {W:World} (h0:W.heap[0]? =some o) {vs:Array Value} {ps:List PU} (hs:vs.size=ps.length) (hp:ps.all PV.notFresh=true)
  (h: ∀ (j:Nat) p,ps[j]? =some p->Rep (LL o) W (NB (fun _ _=>False) 0 (fun _=>0) fun _=>none) (gB UU 0 fun _=>0) (vs.getD j undef) p):Given (LL o) W vs (fun _ _=>False) (fun _=>0) (fun _=>none) (fun _=> #[]) ps [] where
 bnd:=⟨fun i j hi=>absurd hi (Nat.not_lt_zero i),fun i hi=>absurd hi (Nat.not_lt_zero i),fun j b h=>(by cases h),fun i j b h=>(by cases h),fun j b h=>(by cases h),fun b o h=>h.elim⟩
 size:=hs
 dom:=fun j b h=>by cases h
 glob:=fun b o' hb=>by
  simp [LL] at hb
  obtain ⟨rfl,rfl⟩:=hb
  exact ⟨h0,fun i hi=>absurd hi (Nat.not_lt_zero i),fun j h=>by cases h⟩
 args:=fun j p hj=>RepG.of (h j p hj)
 boxes:=fun k b h=>by simp at h
 oz:=fun _ _=>rfl
theorem noN: ∀b o,¬NB (fun _ _=>False) 0 (fun _=>0) (fun _=>none) b o:=by
 rintro b o (h|⟨k,hk,_⟩|⟨j,h⟩)
 ·exact h
 ·exact absurd hk (Nat.not_lt_zero k)
 ·cases h
theorem agf {o:Obj} {f:FuncId} {ps:List PU} (hok:dm (LL o) f ps [] (.ret (.bool true) [])) {W:World} {vs:Array Value} (hg:Given (LL o) W vs (fun _ _=>False) (fun _=>0) (fun _=>none) (fun _=> #[]) ps []):
  Calls Tryz.prog f vs W fun e W'=>e= .returned (.bool true)/\Kept W W':=by
 refine (hok.2 W vs _ _ _ _ hg).mono ?_
 rintro e W' he
 cases e with
 |returned rv=>
  obtain ⟨ν',δ',hb,hr⟩:=he
  have hr:Rep (LL o) W' _ _ rv (.bool true):=hr
  cases hr
  refine ⟨rfl,hb.ext.os,hb.ext.output,hb.ext.size,fun b hb'=>hb.ext.block b hb' fun hm=> ?_⟩
  simp [sH] at hm
 |panicked ch=>exact he.elim
 |outgrown=>exact he.elim
theorem asY {H:Type}:(Rows.laid_math_bits_deBruijn32tab:DataW H)=Lib.tabData .u8 (Lib.deBruijn32tab.map fun n:Nat=>(n:Int)):=rfl
theorem asZ {W:World} (h:laidMetH Tryz.prog [("math/bits.deBruijn32tab",Rows.laid_math_bits_deBruijn32tab)] W): ∃o,ao o/\W.heap[0]? =some o:=by
 have h':laidMet Tryz.prog [("math/bits.deBruijn32tab",Rows.laid_math_bits_deBruijn32tab)] W:=h
 rw [asY] at h'
 have ht:Lib.TabIs Tryz.prog W "math/bits.deBruijn32tab" .u8 (Lib.deBruijn32tab.map fun n:Nat=>(n:Int)):=
  Lib.tabIs_of_head (rest:=[]) QF (by kernel_rfl) Tryz.underlying234 Tryz.underlying5 (by kernel_rfl) (by kernel_rfl) h'
 have hc: ∀j,j<Lib.deBruijn32tab.length->W.cell? ⟨0,j,none⟩=some (.int .u8 (Lib.deBruijn32tab.getD j 0:Nat)):=fun j hj=>by
  rw [ht.cell QF j (by simpa using hj)]
  simp [List.getD,hj]
 have h0:=hc 0 (by decide)
 cases hh:W.heap[0]? with
 |none=>simp [World.cell?,hh] at h0
 |some o=>
  cases o with
  |cells cur e fr=>
   refine ⟨_,⟨cur,e,fr,rfl,fun j hj=> ?_⟩,rfl⟩
   have:=hc j hj
   simpa [World.cell?,hh] using this
  |_=>simp [World.cell?,hh] at h0
end
end Go.Proofs.YtgajalidbabccaaGreatDoor
namespace Go.Proofs.YtgajalidbabccaaGreatDoor
open Go PI
set_option maxRecDepth 100000
noncomputable section
abbrev Rw (S:Type):=List PU->List (Box UU)->(Out UU->Option S)->Option S
abbrev Kn (S:Type):=(Out UU->Option S)->Option S
noncomputable def iI (n:Int):PU:= .int .i64 n
noncomputable def iU (n:Int):PU:= .int .u32 n
noncomputable def pt (i:Nat):PU:= .ptr i 0
noncomputable def aT (t:Tm):PU:= .agg [.int .i64 t.kind,.int .i64 t.n,.str t.name,cZ t.r .none,gO t.kids .none,fz t.sys .none]
noncomputable def aC (c:Cl):PU:= .agg [.int .u32 c.pos,.int .u32 c.neg]
noncomputable def aB (b:Br Tm):PU:= .agg [cZ b.face .none,gO b.kids .none]
noncomputable def bT (t:Tm):Box UU:= .cells [.int .i64 t.kind,.int .i64 t.n,.str t.name,cZ t.r .none,gO t.kids .none,fz t.sys .none]
noncomputable def bC (c:Cl):Box UU:= .cells [.int .u32 c.pos,.int .u32 c.neg]
noncomputable def bB (b:Br Tm):Box UU:= .cells [cZ b.face .none,gO b.kids .none]
noncomputable def bI (n:Int):Box UU:= .cells [.int .i64 n]
noncomputable def bb (b:Bool):Box UU:= .cells [.bool b]
noncomputable def sC (l:List Cl):PU:=cZ l .none
noncomputable def sT (l:List Tm):PU:=gO l .none
noncomputable def sB (l:List (Br Tm)):PU:=fz l .none
structure Cd where
 D:Type->Type
 k:{ρ:Type}->ρ->D ρ
 dec:{ρ:Type}->D ρ->PU->Option ρ
 A:{ρ:Type}->D ρ->(PU->ρ->Prop)->Prop
 law: ∀ {ρ:Type} (f:D ρ) (v:PU) (r:ρ) (Q:PU->ρ->Prop),A f Q->dec f v=some r->Q v r
structure Cs where
 D:Type->Type
 n:Nat
 k:{ρ:Type}->ρ->D ρ
 dec:{ρ:Type}->D ρ->List PU->Option ρ
 A:{ρ:Type}->D ρ->(List PU->ρ->Prop)->Prop
 law: ∀ {ρ:Type} (f:D ρ) (v:List PU) (r:ρ) (Q:List PU->ρ->Prop),A f Q->dec f v=some r->Q v r
 len: ∀ {ρ:Type} (f:D ρ) (v:List PU) (r:ρ),dec f v=some r->v.length=n
structure Bs where
 D:Type->Type
 n:Nat
 k:{ρ:Type}->ρ->D ρ
 dec:{ρ:Type}->D ρ->List (Box UU)->Option ρ
 A:{ρ:Type}->D ρ->(List (Box UU)->ρ->Prop)->Prop
 law: ∀ {ρ:Type} (f:D ρ) (v:List (Box UU)) (r:ρ) (Q:List (Box UU)->ρ->Prop),A f Q->dec f v=some r->Q v r
 len: ∀ {ρ:Type} (f:D ρ) (v:List (Box UU)) (r:ρ),dec f v=some r->v.length=n
noncomputable def cn:Cs where
 D ρ:=ρ
 n:=0
 k r:=r
 dec f:=fun|[]=>some f|_=> .none
 A f Q:=Q [] f
 law f v r Q h e:=by split at e<;>cases e;exact h
 len f v r e:=by split at e<;>cases e;rfl
noncomputable def cc (c:Cd) (s:Cs):Cs where
 D ρ:=c.D (s.D ρ)
 n:=s.n+1
 k r:=c.k (s.k r)
 dec f:=fun|v::l=>(c.dec f v).bind fun g=>s.dec g l|[]=> .none
 A f Q:=c.A f fun v g=>s.A g fun l r=>Q (v::l) r
 law f v r Q h e:=by
  split at e
  ·obtain ⟨g,h1,h2⟩:=Option.bind_eq_some_iff.1 e
   have:=s.law g _ r _ (c.law f _ g _ h h1) h2;exact this
  ·cases e
 len f v r e:=by
  split at e
  ·obtain ⟨g,h1,h2⟩:=Option.bind_eq_some_iff.1 e
   simp [s.len g _ r h2]
  ·cases e
noncomputable def xn:Bs where
 D ρ:=ρ
 n:=0
 k r:=r
 dec f:=fun|[]=>some f|_=> .none
 A f Q:=Q [] f
 law f v r Q h e:=by split at e<;>cases e;exact h
 len f v r e:=by split at e<;>cases e;rfl
noncomputable def xc (c:Cs) (s:Bs):Bs where
 D ρ:=c.D (s.D ρ)
 n:=s.n+1
 k r:=c.k (s.k r)
 dec f:=fun| .cells v::l=>(c.dec f v).bind fun g=>s.dec g l|_=> .none
 A f Q:=c.A f fun v g=>s.A g fun l r=>Q (.cells v::l) r
 law f v r Q h e:=by
  split at e
  ·obtain ⟨g,h1,h2⟩:=Option.bind_eq_some_iff.1 e
   have:=s.law g _ r _ (c.law f _ g _ h h1) h2;exact this
  ·cases e
 len f v r e:=by
  split at e
  ·obtain ⟨g,h1,h2⟩:=Option.bind_eq_some_iff.1 e
   simp [s.len g _ r h2]
  ·cases e
noncomputable def cI:Cd where
 D ρ:=Int->ρ
 k r:=fun _=>r
 dec f:=fun| .int .i64 n=>some (f n)|_=> .none
 A f Q:= ∀n:Int,Q (iI n) (f n)
 law f v r Q h e:=by split at e<;>cases e;exact h _
noncomputable def cU:Cd where
 D ρ:=Int->ρ
 k r:=fun _=>r
 dec f:=fun| .int .u32 n=>some (f n)|_=> .none
 A f Q:= ∀n:Int,Q (iU n) (f n)
 law f v r Q h e:=by split at e<;>cases e;exact h _
noncomputable def cN (kd:IntKind):Cd where
 D ρ:=Int->ρ
 k r:=fun _=>r
 dec f:=fun| .int q n=>(match decEq q kd with| .isTrue _=>some (f n)| .isFalse _=> .none)|_=> .none
 A f Q:= ∀n:Int,Q (.int kd n) (f n)
 law f v r Q h e:=by
  split at e
  ·split at e
   ·rename_i hq _;subst hq;cases e;exact h _
   ·cases e
  ·cases e
noncomputable def cb:Cd where
 D ρ:=Bool->ρ
 k r:=fun _=>r
 dec f:=fun| .bool n=>some (f n)|_=> .none
 A f Q:= ∀n:Bool,Q (.bool n) (f n)
 law f v r Q h e:=by split at e<;>cases e;exact h _
noncomputable def cs:Cd where
 D ρ:=ByteArray->ρ
 k r:=fun _=>r
 dec f:=fun| .str n=>some (f n)|_=> .none
 A f Q:= ∀n:ByteArray,Q (.str n) (f n)
 law f v r Q h e:=by split at e<;>cases e;exact h _
noncomputable def lC:Cd where
 D ρ:=List Cl->ρ
 k r:=fun _=>r
 dec f:=fun| .sl .C n .none=>some (f n)|_=> .none
 A f Q:= ∀n:List Cl,Q (sC n) (f n)
 law f v r Q h e:=by split at e<;>cases e;exact h _
noncomputable def lT:Cd where
 D ρ:=List Tm->ρ
 k r:=fun _=>r
 dec f:=fun| .sl .T n .none=>some (f n)|_=> .none
 A f Q:= ∀n:List Tm,Q (sT n) (f n)
 law f v r Q h e:=by split at e<;>cases e;exact h _
noncomputable def lB:Cd where
 D ρ:=List (Br Tm)->ρ
 k r:=fun _=>r
 dec f:=fun| .sl .B n .none=>some (f n)|_=> .none
 A f Q:= ∀n:List (Br Tm),Q (sB n) (f n)
 law f v r Q h e:=by split at e<;>cases e;exact h _
noncomputable def lI:Cd where
 D ρ:=List Int->ρ
 k r:=fun _=>r
 dec f:=fun| .sl .I n .none=>some (f n)|_=> .none
 A f Q:= ∀n:List Int,Q (oN n .none) (f n)
 law f v r Q h e:=by split at e<;>cases e;exact h _
noncomputable def lF:Cd where
 D ρ:=List (List Cl)->ρ
 k r:=fun _=>r
 dec f:=fun| .sl .F n .none=>some (f n)|_=> .none
 A f Q:= ∀n:List (List Cl),Q (Nd n .none) (f n)
 law f v r Q h e:=by split at e<;>cases e;exact h _
noncomputable def hC:Cd where
 D ρ:=List Cl->ρ
 k r:=fun _=>r
 dec f:=fun| .fresh .C n=>some (f n)|_=> .none
 A f Q:= ∀n:List Cl,Q (Kd n) (f n)
 law f v r Q h e:=by split at e<;>cases e;exact h _
noncomputable def hT:Cd where
 D ρ:=List Tm->ρ
 k r:=fun _=>r
 dec f:=fun| .fresh .T n=>some (f n)|_=> .none
 A f Q:= ∀n:List Tm,Q (frT n) (f n)
 law f v r Q h e:=by split at e<;>cases e;exact h _
noncomputable def hB:Cd where
 D ρ:=List (Br Tm)->ρ
 k r:=fun _=>r
 dec f:=fun| .fresh .B n=>some (f n)|_=> .none
 A f Q:= ∀n:List (Br Tm),Q (zx n) (f n)
 law f v r Q h e:=by split at e<;>cases e;exact h _
noncomputable def cT:Cd where
 D ρ:=Tm->ρ
 k r:=fun _=>r
 dec f:=fun| .agg [.int .i64 a,.int .i64 b,.str c,.sl .C d .none,.sl .T e .none,.sl .B g .none]=>some (f (Tm.mk a b c d e g))|_=> .none
 A f Q:= ∀t:Tm,Q (aT t) (f t)
 law f v r Q h e:=by split at e<;>cases e;exact h (Tm.mk _ _ _ _ _ _)
noncomputable def cC:Cd where
 D ρ:=Cl->ρ
 k r:=fun _=>r
 dec f:=fun| .agg [.int .u32 a,.int .u32 b]=>some (f ⟨a,b⟩)|_=> .none
 A f Q:= ∀t:Cl,Q (aC t) (f t)
 law f v r Q h e:=by split at e<;>cases e;exact h (⟨_,_⟩)
noncomputable def cB:Cd where
 D ρ:=Br Tm->ρ
 k r:=fun _=>r
 dec f:=fun| .agg [.sl .C a .none,.sl .T b .none]=>some (f (Br.mk a b))|_=> .none
 A f Q:= ∀t:Br Tm,Q (aB t) (f t)
 law f v r Q h e:=by split at e<;>cases e;exact h (Br.mk _ _)
noncomputable def xT (s:Bs):Bs where
 D ρ:=Tm->s.D ρ
 n:=s.n+1
 k r:=fun _=>s.k r
 dec f:=fun| .cells [.int .i64 a,.int .i64 b,.str c,.sl .C d .none,.sl .T e .none,.sl .B g .none]::l=>s.dec (f (Tm.mk a b c d e g)) l|_=> .none
 A f Q:= ∀t:Tm,s.A (f t) fun l r=>Q (bT t::l) r
 law f v r Q h e:=by
  split at e
  ·have:=s.law _ _ r _ (h (Tm.mk _ _ _ _ _ _)) e;exact this
  ·cases e
 len f v r e:=by
  split at e
  ·simp [s.len _ _ r e]
  ·cases e
noncomputable def xC (s:Bs):Bs where
 D ρ:=Cl->s.D ρ
 n:=s.n+1
 k r:=fun _=>s.k r
 dec f:=fun| .cells [.int .u32 a,.int .u32 b]::l=>s.dec (f ⟨a,b⟩) l|_=> .none
 A f Q:= ∀t:Cl,s.A (f t) fun l r=>Q (bC t::l) r
 law f v r Q h e:=by
  split at e
  ·have:=s.law _ _ r _ (h (⟨_,_⟩)) e;exact this
  ·cases e
 len f v r e:=by
  split at e
  ·simp [s.len _ _ r e]
  ·cases e
noncomputable def xI (s:Bs):Bs where
 D ρ:=Int->s.D ρ
 n:=s.n+1
 k r:=fun _=>s.k r
 dec f:=fun| .cells [.int .i64 a]::l=>s.dec (f a) l|_=> .none
 A f Q:= ∀t:Int,s.A (f t) fun l r=>Q (bI t::l) r
 law f v r Q h e:=by
  split at e
  ·have:=s.law _ _ r _ (h _) e;exact this
  ·cases e
 len f v r e:=by
  split at e
  ·simp [s.len _ _ r e]
  ·cases e
noncomputable def cp (i:Nat):Cd where
 D ρ:=ρ
 k r:=r
 dec f:=fun| .ptr j 0=>(match decEq j i with| .isTrue _=>some f| .isFalse _=> .none)|_=> .none
 A f Q:=Q (pt i) f
 law f v r Q h e:=by
  split at e
  ·split at e
   ·rename_i hq _;subst hq;cases e;exact h
   ·cases e
  ·cases e
noncomputable def cg (s:Cs):Cd where
 D ρ:=s.D ρ
 k r:=s.k r
 dec f:=fun| .agg l=>s.dec f l|_=> .none
 A f Q:=s.A f fun l r=>Q (.agg l) r
 law f v r Q h e:=by
  split at e
  ·have:=s.law f _ r _ h e;exact this
  ·cases e
noncomputable def cf (i:Nat) (s:Cs) (u:Cs):Cd where
 D ρ:=s.D (u.D ρ)
 k r:=s.k (u.k r)
 dec f:=fun| .func j l m=>(match decEq j i with| .isTrue _=>(s.dec f l).bind fun g=>u.dec g m| .isFalse _=> .none)|_=> .none
 A f Q:=s.A f fun l g=>u.A g fun m r=>Q (.func i l m) r
 law f v r Q h e:=by
  split at e
  ·split at e
   ·rename_i hq _
    subst hq
    obtain ⟨g,h1,h2⟩:=Option.bind_eq_some_iff.1 e
    have:=u.law g _ r _ (s.law f _ g _ h h1) h2;exact this
   ·cases e
  ·cases e
noncomputable def am {S:Type} (K:Cs) (B:Bs) (F:K.D (B.D (Kn S))):Rw S:=fun vs bs κ=>(K.dec F vs).bind fun g=>(B.dec g bs).bind fun h=>h κ
noncomputable def rF (K:Cs) (B:Bs) (vs:List PU) (bs:List (Box UU)):Bool:=((K.dec (K.k (B.k ())) vs).bind fun g=>B.dec g bs).isSome
noncomputable def AA {S:Type} (K:Cs) (B:Bs) (F:K.D (B.D (Kn S))) (Q:List PU->List (Box UU)->Kn S->Prop):Prop:=K.A F fun vs g=>B.A g fun bs h=>Q vs bs h
theorem Av {S:Type} {K:Cs} {B:Bs} {F:K.D (B.D (Kn S))} {Q:List PU->List (Box UU)->Kn S->Prop} (hA:AA K B F Q) {vs:List PU} {bs:List (Box UU)} {κ:Out UU->Option S} {x:S} (h:am K B F vs bs κ=some x):
  ∃g,Q vs bs g/\g κ=some x/\vs.length=K.n/\bs.length=B.n:=by
 obtain ⟨g,h1,h2⟩:=Option.bind_eq_some_iff.1 h
 obtain ⟨u,h3,h4⟩:=Option.bind_eq_some_iff.1 h2
 have:=K.law F vs g _ hA h1
 have:=B.law g bs u _ this h3
 exact ⟨u,this,h4,K.len _ _ _ h1,B.len _ _ _ h3⟩
noncomputable def Tl {S:Type} (o:Obj) (f:Nat) (r:Rw S):Prop:= ∀vs bs κ x,r vs bs κ=some x-> ∃out,dm (LL o) f vs bs out/\κ out=some x
noncomputable def Az {S:Type}:List (Nat×Rw S)->Oracle UU S
 |[],_,_,_,_=> .none
 |(g,r)::l,f,vs,bs,κ=>bif aU f g then r vs bs κ else Az l f vs bs κ
noncomputable def TA {S:Type} (o:Obj):List (Nat×Rw S)->Prop
 |[]=>True
 |(f,r)::l=>Tl o f r/\TA o l
theorem TA.tells {S:Type} {o:Obj}: ∀ {l:List (Nat×Rw S)},TA o l->(Az l).Tells (dm (LL o))
 |[],_,f,vs,bs,κ,x,h=>by cases h
 |(g,r)::l,hl,f,vs,bs,κ,x,h=>by
  unfold Az at h
  cases hb:aU f g with
  |true=>
   rw [hb] at h
   have:=Nat.eq_of_beq_eq_true hb
   subst this
   exact hl.1 _ _ _ _ h
  |false=>
   rw [hb] at h
   exact TA.tells hl.2 _ _ _ _ _ h
noncomputable def oC {S:Type} (b:List PU->List (Box UU)->Bool) (r q:Rw S):Rw S:=fun vs bs κ=>bif b vs bs then r vs bs κ else q vs bs κ
theorem sQ {S:Type} {o:Obj} {f:Nat} {b:List PU->List (Box UU)->Bool} {r q:Rw S} (h1:Tl o f r) (h2:Tl o f q):Tl o f (oC b r q):=fun vs bs κ x h=>by
 unfold oC at h
 rcases afQ h with h|h
 ·exact h1 _ _ _ _ h
 ·exact h2 _ _ _ _ h
structure Fx (S:Type) where
 sd:Side UU
 rows:List (Nat×Rw S)
 loops:List (Nat×Ann×List Bool)
 k:Nat
 fn:Func
 kp:Bool
 hn:List Bool
 nb:Nat
 cd:Option (PU->Oracle UU S)
noncomputable def Pf:List (Nat×Ann×List Bool)->Nat->Option Ann
 |[],_=> .none
 |(i,a,_)::l,n=>bif aU n i then some a else Pf l n
noncomputable def KY:List (Nat×Ann×List Bool)->Nat->Ann×List Bool
 |[],_=>(⟨[],[]⟩,[])
 |(i,a)::l,n=>bif aU n i then a else KY l n
noncomputable def bG (rs:List Nat) (bs:List (Nat×Nat)):Ann:=⟨rs.map fun n=>(n,.none),bs.map fun p=>(p.1,List.replicate p.2 .none)⟩
noncomputable def aG:Nat->Nat->List Bool
 |0,_=>[]
 |n+1,b=>aU (b%2) 1::aG n (b/2)
noncomputable def fx {S:Type} (nt:Nat) (gv:Nat->List Bool) (ip:Nat->Bool) (rows:List (Nat×Rw S)) (loops:List (Nat×Ann×List Bool)) (k:Nat) (fn:Func) (kp:Bool) (hn:List Bool) (nb:Nat):Fx S:=
 ⟨⟨nt,gv,ip,.none,fun _=>false⟩,rows,loops,k,fn,kp,hn,nb,.none⟩
noncomputable def fp {S:Type} (nt:Nat) (rows:List (Nat×Rw S)) (loops:List (Nat×Ann×List Bool)) (k:Nat) (fn:Func) (nb:Nat):Fx S:=fx nt (fun _=>[]) (fun _=>false) rows loops k fn false [] nb
variable {S:Type}
noncomputable def Fx.oc (F:Fx S):Oracle UU S:=Az F.rows
noncomputable def Fx.an (F:Fx S):Nat->Option Ann:=Pf F.loops
noncomputable def Fx.go (F:Fx S) (c:Code) (σ:St UU) (κ:Ex UU->St UU->Option S):Option S:=PI.run VV F.sd F.oc F.an F.k c σ κ
noncomputable def Fx.kt (F:Fx S) (κ:Out UU->Option S) (p:List Bool) (κs:List (St UU->Option S)):Ex UU->St UU->Option S:=match F.cd with
 | .none=>nY VV F.sd F.oc F.an F.k (km F.fn) p κs F.an (kF VV F.oc F.kp F.hn F.fn F.nb κ)
 |some C=>RE VV F.sd F.oc F.an F.k (km F.fn) p κs F.an (kF VV F.oc F.kp F.hn F.fn F.nb κ) (kD VV F.oc C F.kp F.hn F.fn F.nb κ)
noncomputable def Fx.run (F:Fx S) (vs:List PU) (bs:List (Box UU)) (κ:Out UU->Option S):Option S:=match F.cd with
 | .none=>wB VV F.sd F.oc F.an F.k F.kp F.hn F.fn vs bs κ
 |some C=>MM VV F.sd F.oc F.an F.k C F.kp F.hn F.fn vs bs κ
noncomputable def Fx.A (F:Fx S) (i:Nat):Ann:=(KY F.loops i).1
noncomputable def Fx.p (F:Fx S) (i:Nat):List Bool:=(KY F.loops i).2
noncomputable def Fx.lp (F:Fx S) (κ:Out UU->Option S) (i:Nat) (κs:List (St UU->Option S)) (n:Nat) (σ:St UU):Option S:=
 zS (gD (F.A i)) (fun σ κ=>F.go (li (km F.fn) (F.p i++[false])) σ κ) n σ (F.kt κ (F.p i) κs)
noncomputable def Fx.st (F:Fx S) (κ:Out UU->Option S) (i:Nat) (κs:List (St UU->Option S)) (r:St UU->Option S) (σ:St UU):Option S:=
 F.go (li (km F.fn) (F.p i++[false])) σ (back (gD (F.A i)) r (F.kt κ (F.p i) κs))
noncomputable def Fx.jn (F:Fx S) (κ:Out UU->Option S) (i:Nat) (κs:List (St UU->Option S)) (n:Nat) (σ:St UU):Option S:=
 Kt (fun σ κ=>F.go (li (km F.fn) (F.p i)) σ κ) n σ (F.kt κ (F.p i) κs)
noncomputable def Fx.sj (F:Fx S) (κ:Out UU->Option S) (i:Nat) (κs:List (St UU->Option S)) (σ:St UU):Option S:=F.go (li (km F.fn) (F.p i)) σ (F.kt κ (F.p i) κs)
theorem Fx.lp_succ (F:Fx S) (κ:Out UU->Option S) (i:Nat) (κs:List (St UU->Option S)) (n:Nat) (σ:St UU):F.lp κ i κs (n+1) σ=F.st κ i κs (fun τ=>F.lp κ i κs n τ) σ:=rfl
theorem Fx.jn_succ (F:Fx S) (κ:Out UU->Option S) (i:Nat) (κs:List (St UU->Option S)) (n:Nat) (σ:St UU):F.jn κ i κs (n+1) σ=F.sj κ i κs σ:=rfl
noncomputable def vV (F:Fx S) (n m:Nat):Bool:=(F.fn.name== "runtime.NumGoroutine")==false&&(F.fn.body.isNone==false&&(aU F.fn.ntmps F.sd.nt&&(cX F.sd.nt 1000000&&(cX n F.sd.nt&&cX m 1000000))))
theorem Lz {F:Fx S} {n m:Nat} (h:vV F n m=true):(F.fn.name== "runtime.NumGoroutine")=false/\F.fn.body.isNone=false/\F.fn.ntmps=F.sd.nt/\F.sd.nt<=1000000/\n<=F.sd.nt/\m<=1000000:=by
 unfold vV at h
 simp only [aZ,beq_iff_eq] at h
 obtain ⟨h1,h2,h3,h4,h5,h6⟩:=h
 exact ⟨h1,h2,Nat.eq_of_beq_eq_true h3,Nat.le_of_ble_eq_true h4,Nat.le_of_ble_eq_true h5,Nat.le_of_ble_eq_true h6⟩
theorem tlG {o:Obj} {K:Cs} {B:Bs} {R:K.D (B.D (Kn S))} (F:Fx S) {f:FuncId} (ht:TA o F.rows) (hf:Tryz.prog.funcs[f]? =some F.fn) (hb:vV F K.n B.n=true) (run:AA K B R fun vs bs g=> ∀κ x,g κ=some x->F.run vs bs κ=some x)
  (h1:F.sd.rcv= .none:=by rfl) (h2:F.sd.pin=(fun _=>false):=by rfl) (h3:F.cd= .none:=by rfl):Tl o f (am K B R):=fun vs bs κ x h=>by
 obtain ⟨g,hg,hx,hl,hm⟩:=Av run h
 have hr:=hg κ x hx
 unfold Fx.run at hr
 rw [h3] at hr
 obtain ⟨b1,b2,b3,b4,b5,b6⟩:=Lz hb
 exact sw (XH FM (Fq o) h1 h2 ht.tells hf b1 b2 b3 b4 (by omega) hr)
open Classical in
noncomputable def De {S:Type} (bs:List (Box UU)) (κ:Out UU->Option S):Out UU->Option S
 | .ret v cs=>if cs=bs then κ (.ret v []) else .none
 | .panic .. => .none
theorem Zb {S:Type} {o:Obj} {K:Cs} {B:Bs} {R:K.D (B.D (Kn S))} {f:FuncId} {r:Rw S} (h:Tl o f r) (run:AA K B R fun vs bs g=> ∀κ x,g κ=some x->r vs bs (De bs κ)=some x):Tl o f (am K B R):=fun vs bs κ x hx=>by
 obtain ⟨g,hg,hx,_⟩:=Av run hx
 obtain ⟨out,hok,hκ⟩:=h _ _ _ _ (hg κ x hx)
 cases out with
 |panic v cs=>cases hκ
 |ret v cs=>
  simp only [De] at hκ
  split at hκ
  case isFalse=>cases hκ
  rename_i hc
  subst hc
  refine ⟨.ret v [], ?_,hκ⟩
  have e:Out.full cs (.ret v [])=Out.full cs (.ret v cs):=by
   have hb:cX cs.length cs.length=true:=by simp
   simp only [Out.full,hb,cond_true]
   cases cs<;>rfl
  unfold dm
  rw [e]
  exact hok
open Classical in
noncomputable def Df {S:Type} (n m:Nat) (bs:List (Box UU)) (κ:Out UU->Option S):Out UU->Option S
 | .ret v cs=>match cs[n]? with
  |some (.cells a)=>if cX bs.length 1=false/\oD bs [.cells (.int .i64 n::a.take m)]=cs then κ (.ret v [.cells (.int .i64 n::a.take m)]) else .none
  |_=> .none
 | .panic .. => .none
theorem Za {S:Type} {o:Obj} {K:Cs} {B:Bs} {R:K.D (B.D (Kn S))} {f:FuncId} {r:Rw S} {n m:Nat} (h:Tl o f r) (run:AA K B R fun vs bs g=> ∀κ x,g κ=some x->r vs bs (Df n m bs κ)=some x):Tl o f (am K B R):=fun vs bs κ x hx=>by
 obtain ⟨g,hg,hx,_⟩:=Av run hx
 obtain ⟨out,hok,hκ⟩:=h _ _ _ _ (hg κ x hx)
 cases out with
 |panic v cs=>cases hκ
 |ret v cs=>
  simp only [Df] at hκ
  split at hκ
  case h_2=>cases hκ
  rename_i a ha
  split at hκ
  case isFalse=>cases hκ
  rename_i hc
  obtain ⟨hl,hc⟩:=hc
  refine ⟨.ret v _, ?_,hκ⟩
  have e:Out.full bs (.ret v [.cells (.int .i64 n::a.take m)])=Out.full bs (.ret v cs):=by
   have h1:Out.full bs (.ret v [.cells (.int .i64 n::a.take m)])= .ret v cs:=by
    simp only [Out.full]
    rw [show [(Box.cells (.int .i64 n::a.take m):Box UU)].length=1 from rfl,hl,cond_false,hc]
   have h2:cs.length=bs.length:=by
    rw [<-hc];unfold oD;split<;>(try split)<;>simp
   have h3:cX bs.length cs.length=true:=by rw [h2];simp
   rw [h1]
   simp only [Out.full,h3,cond_true]
  unfold dm
  rw [e]
  exact hok
theorem fT {o:Obj} {K:Cs} {B:Bs} {R:K.D (B.D (Kn S))} {f:FuncId} (h0:AA K B R fun vs bs g=> ∀κ x,g κ=some x->False):Tl o f (am K B R):=fun vs bs κ x h=>by
 obtain ⟨g,hg,hx,_⟩:=Av h0 h
 exact (hg κ x hx).elim
noncomputable def tK (nt f:Nat) (fn:Func) (k:Nat):PU->Oracle UU S:=fun v g vs bs κ=>bif aU g f&&cX vs.length nt then MN VV ⟨nt,fun _=>[],fun _=>false,.none,fun _=>false⟩ (Az []) (fun _=> .none) k true [] fn v vs bs κ else .none
theorem C9 (o:Obj) {nt f:Nat} {fn:Func} {k:Nat} (hf:Tryz.prog.funcs[f]? =some fn) (hb:vV (fp nt [] [] k fn 0:Fx S) 0 0=true): ∀v u u',RcvOK v u u'->(tK (S:=S) nt f fn k v).Tells (me (LL o) (ni Tryz.prog u u')):=by
 intro v u u' hv g vs bs κ x h
 unfold tK at h
 cases hc:aU g f&&cX vs.length nt with
 |false=>rw [hc] at h;cases h
 |true=>
  rw [hc] at h
  rw [aZ] at hc
  have:=Nat.eq_of_beq_eq_true hc.1
  subst this
  obtain ⟨b1,b2,b3,b4,_,_⟩:=Lz hb
  exact sw (aqo FM (Fq o) rfl rfl (TA.tells (l:=[]) (o:=o) trivial) hf b1 b2 b3 b4 hv (Nat.le_of_ble_eq_true hc.2) h)
theorem Hc {o:Obj} {K:Cs} {B:Bs} {R:K.D (B.D (Kn S))} (F:Fx S) {f:FuncId} {C:PU->Oracle UU S} (h3:F.cd=some C) (hC: ∀v u u',RcvOK v u u'->(C v).Tells (me (LL o) (ni Tryz.prog u u'))) (ht:TA o F.rows) (hf:Tryz.prog.funcs[f]? =some F.fn) (hb:vV F K.n B.n=true)
  (run:AA K B R fun vs bs g=> ∀κ x,g κ=some x->F.run vs bs κ=some x) (h1:F.sd.rcv= .none:=by rfl):Tl o f (am K B R):=fun vs bs κ x h=>by
 obtain ⟨g,hg,hx,hl,hm⟩:=Av run h
 have hr:=hg κ x hx
 unfold Fx.run at hr
 rw [h3] at hr
 obtain ⟨b1,b2,b3,b4,b5,b6⟩:=Lz hb
 exact sw (aqm FM (Fq o) h1 ht.tells hC hf b1 b2 b3 b4 (by omega) (by omega) hr)
theorem ap {o:Obj} {K:Cs} {B:Bs} {R:K.D (B.D (Kn S))} (F:Fx S) {f:FuncId} (ht:TA o F.rows) (hf:Tryz.prog.funcs[f]? =some F.fn) (run:AA K B R fun vs bs g=> ∀κ x,g κ=some x->F.run vs bs κ=some x) (hb:vV F K.n B.n=true:=by kernel_rfl)
  (h1:F.sd.rcv= .none:=by rfl) (h2:F.sd.pin=(fun _=>false):=by rfl) (h3:F.cd= .none:=by rfl):Tl o f (am K B R):=tlG F ht hf hb run h1 h2 h3
theorem mG {F:Fx S} {κ:Out UU->Option S} {i:Nat} {κs:List (St UU->Option S)} {mk:St UU} {l:Nat->Option S} (b:Option S) (h0:l 0= .none:=by rfl) (hs: ∀n,l (n+1)=b:=by intros;rfl) (B:F.sj κ i κs mk=b:=by intros;kernel_rfl): ∀ (n:Nat),F.jn κ i κs n mk=l n:=by
 intro n
 cases n with
 |zero=>intros;rw [h0];rfl
 |succ n=>intros;rw [hs,Fx.jn_succ];exact B
theorem dO {F:Fx S} {κ:Out UU->Option S} {i:Nat} {κs:List (St UU->Option S)} {α0:Type} {mk:α0->St UU} {l:Nat->α0->Option S} (b:(α0->Option S)->α0->Option S) (h0:l 0=fun x0=> .none:=by rfl) (hs: ∀n,l (n+1)=b (l n):=by intros;rfl) (B: ∀ (r:St UU->Option S) x0,F.st κ i κs r (mk x0)=b (fun x0=>r (mk x0)) x0:=by intros;kernel_rfl): ∀ (n:Nat) x0,F.lp κ i κs n (mk x0)=l n x0:=by
 intro n
 induction n with
 |zero=>intros;rw [h0];rfl
 |succ n ih=>
  intros
  rw [hs,Fx.lp_succ,B]
  exact congrArg (fun g=>b g _) (funext fun x0=>ih x0)
theorem rL {F:Fx S} {κ:Out UU->Option S} {i:Nat} {κs:List (St UU->Option S)} {α0:Type} {mk:α0->St UU} {l:Nat->α0->Option S} (b:α0->Option S) (h0:l 0=fun x0=> .none:=by rfl) (hs: ∀n,l (n+1)=b:=by intros;rfl) (B: ∀x0,F.sj κ i κs (mk x0)=b x0:=by intros;kernel_rfl): ∀ (n:Nat) x0,F.jn κ i κs n (mk x0)=l n x0:=by
 intro n
 cases n with
 |zero=>intros;rw [h0];rfl
 |succ n=>intros;rw [hs,Fx.jn_succ];exact B _
theorem bh {F:Fx S} {κ:Out UU->Option S} {i:Nat} {κs:List (St UU->Option S)} {α0 α1:Type} {mk:α0->α1->St UU} {l:Nat->α0->α1->Option S} (b:(α0->α1->Option S)->α0->α1->Option S) (h0:l 0=fun x0 x1=> .none:=by rfl) (hs: ∀n,l (n+1)=b (l n):=by intros;rfl) (B: ∀ (r:St UU->Option S) x0 x1,F.st κ i κs r (mk x0 x1)=b (fun x0 x1=>r (mk x0 x1)) x0 x1:=by intros;kernel_rfl): ∀ (n:Nat) x0 x1,F.lp κ i κs n (mk x0 x1)=l n x0 x1:=by
 intro n
 induction n with
 |zero=>intros;rw [h0];rfl
 |succ n ih=>
  intros
  rw [hs,Fx.lp_succ,B]
  exact congrArg (fun g=>b g _ _) (funext fun x0=>funext fun x1=>ih x0 x1)
theorem Q7 {F:Fx S} {κ:Out UU->Option S} {i:Nat} {κs:List (St UU->Option S)} {α0 α1:Type} {mk:α0->α1->St UU} {l:Nat->α0->α1->Option S} (b:α0->α1->Option S) (h0:l 0=fun x0 x1=> .none:=by rfl) (hs: ∀n,l (n+1)=b:=by intros;rfl) (B: ∀x0 x1,F.sj κ i κs (mk x0 x1)=b x0 x1:=by intros;kernel_rfl): ∀ (n:Nat) x0 x1,F.jn κ i κs n (mk x0 x1)=l n x0 x1:=by
 intro n
 cases n with
 |zero=>intros;rw [h0];rfl
 |succ n=>intros;rw [hs,Fx.jn_succ];exact B _ _
theorem h_ {F:Fx S} {κ:Out UU->Option S} {i:Nat} {κs:List (St UU->Option S)} {α0 α1 α2:Type} {mk:α0->α1->α2->St UU} {l:Nat->α0->α1->α2->Option S} (b:(α0->α1->α2->Option S)->α0->α1->α2->Option S) (h0:l 0=fun x0 x1 x2=> .none:=by rfl) (hs: ∀n,l (n+1)=b (l n):=by intros;rfl) (B: ∀ (r:St UU->Option S) x0 x1 x2,F.st κ i κs r (mk x0 x1 x2)=b (fun x0 x1 x2=>r (mk x0 x1 x2)) x0 x1 x2:=by intros;kernel_rfl): ∀ (n:Nat) x0 x1 x2,F.lp κ i κs n (mk x0 x1 x2)=l n x0 x1 x2:=by
 intro n
 induction n with
 |zero=>intros;rw [h0];rfl
 |succ n ih=>
  intros
  rw [hs,Fx.lp_succ,B]
  exact congrArg (fun g=>b g _ _ _) (funext fun x0=>funext fun x1=>funext fun x2=>ih x0 x1 x2)
end
end Go.Proofs.YtgajalidbabccaaGreatDoor
namespace Go.Proofs.YtgajalidbabccaaGreatDoor
open Go PI
set_option maxRecDepth 100000
noncomputable def Bz:Side UU:=⟨8,fun _=>[],fun _=>false,.none,fun _=>false⟩
noncomputable def FQ {S:Type}:Oracle UU S:=fun _ _ _ _=> .none
theorem c1 {S:Type} (κ:Out UU->Option S):wB VV Bz FQ (fun _=> .none) 5 false [] Tryz.f91 [.sl (U:=UU) ET.C [] .void] [] κ=κ (.ret (cZ [] .none) []):=by kernel_rfl
theorem c2 {S:Type} (l:List Cl) (κ:Out UU->Option S):wB VV Bz FQ (fun _=> .none) 5 false [] Tryz.f91 [.sl (U:=UU) ET.C l .sure] [] κ=ag (aS 1099511627776 0 l.length) fun _=>κ (.ret (cZ l .none) []):=by kernel_rfl
theorem ao8 {S:Type} (o:Obj):(FQ (S:=S)).Tells (dm (LL o)):=fun _ _ _ _ _ h=>by cases h
theorem Pv (o:Obj) {args:List PU} (hl:args.length=1) {out:Out UU} (h:wB VV Bz FQ (fun _=> .none) 5 false [] Tryz.f91 args [] some=some out):dm (LL o) 91 args [] out:=by
 obtain ⟨out',h1,h2⟩:=XH FM (Fq o) (S:=Bz) rfl rfl (ao8 o) (f:=91) Tryz.func91 (by kernel_rfl) rfl rfl (by decide) (by rw [hl];decide) h
 injection h1 with h1
 exact h1▸h2
theorem QJ {X:Link VV Tryz.prog} {w:World} {vs:Array Value} {N0:bm} {ν:Nat->Nat} {δ:Nat->Option Nat} {ο:Nat->Array Value} {p q:PU} (h:Given X w vs N0 ν δ ο [p] [])
  (hr:RepG X w (NB N0 0 ν δ) (gB UU 0 ν) (vs.getD 0 undef) (δ 0) p->RepG X w (NB N0 0 ν δ) (gB UU 0 ν) (vs.getD 0 undef) (δ 0) q):Given X w vs N0 ν δ ο [q] []:=
 {h with
  args:=fun j r hj=>by
   cases j with
   |zero=>
    injection hj with hj
    subst hj
    exact hr (h.args 0 p rfl)
   |succ j=>simp at hj}
theorem agp (o:Obj) (l:List Cl) {u:Unit} (hroom:aS 1099511627776 0 l.length=some u):dm (LL o) 91 [cZ l .none] [] (.ret (cZ l .none) []):=by
 refine ⟨⟨Tryz.f91,Tryz.func91,by kernel_rfl,rfl⟩,fun w vs N0 ν δ ο hg=> ?_⟩
 have h0:Rep (LL o) w (NB N0 0 ν δ) (gB UU 0 ν) (vs.getD 0 undef) (cZ l .none):=hg.args 0 _ rfl
 generalize hv:vs.getD 0 undef=v at h0
 cases h0 with
 |sl A n c _ _ _ val hl hc _ h1 h2=>
 cases A with
 |none=>
  have hl0:l=[]:=by
   cases l with
   |nil=>rfl
   |cons x r=>
    obtain ⟨a,ha,_⟩:=h1 0 x rfl 0 _ rfl
    cases ha
  subst hl0
  exact (Pv o (args:=[cZ [] .void]) rfl (c1 some)).2 w vs N0 ν δ ο (QJ hg fun _=>by
   rw [hv];exact Rep.sl (X:=LL o) none n c ET.C (show List Cl from []) .void val hl hc rfl h1 h2)
 |some a=>
  refine (Pv o (args:=[cZ l .sure]) rfl (out:= .ret (cZ l .none) []) ((c2 l some).trans (by rw [hroom];rfl))).2 w vs N0 ν δ ο (QJ hg fun _=> ?_)
  rw [hv]
  exact Rep.sl (X:=LL o) (some a) n c ET.C l .sure val hl hc (fun h=>by cases h) h1 h2
theorem as8 {S:Type} (o:Obj) (ho:ao o) (vs:List PU) (bs:List (Box UU)) (κ:Out UU->Option S) (x:S) (h:MK vs bs κ=some x): ∃out,dm (LL o) ajO vs bs out/\κ out=some x:=by
 unfold MK at h
 split at h
 case h_2=>cases h
 rename_i κ y
 unfold vY at h
 obtain ⟨u,hr,h⟩:=Option.bind_eq_some_iff.1 h
 exact ⟨_,agp o y hr,h⟩
end Go.Proofs.YtgajalidbabccaaGreatDoor
namespace Go.Proofs.YtgajalidbabccaaGreatDoor
open Go PI
set_option maxRecDepth 100000
noncomputable section
variable {S:Type}
noncomputable abbrev b_:Ob UU:=⟨0,ET.B,([]:List (Br Tm))⟩
noncomputable abbrev cu:Ob UU:=⟨0,ET.T,([]:List Tm)⟩
noncomputable abbrev cq:Ob UU:=⟨0,ET.C,([]:List Cl)⟩
noncomputable abbrev cx:PV UU:= .str au
abbrev ar (n:Nat):Option (Nat×Bool):=some (n,true)
abbrev aa {α:Type}:Option α:= .none
theorem aE {R S:Type} {k:Nat} {f:(R->Option S)->Option S} {g:R->Option S} {a:Option S} {x:S} (h:ab k f g=some x) (e:a=f g:=by kernel_rfl):a=some x:=e.trans (bp h)
def pG:Cs:=cc cT (cc cI cn)
def zF:Cs:=cc cI (cc lT cn)
def Rj:Cs:=cc cI (cc cI cn)
def Ft:Cs:=cc cT (cc cI (cc cI (cc (cp 0) cn)))
def dh:Bs:=xI xn
def kX5:Cs:=cc cT (cc (cf 198 cn (cc (cp 0) cn)) cn)
def kX6:Cs:=cc cT (cc (cf 200 cn (cc (cp 0) cn)) cn)
def ZJ:Bs:=xc (cc (cf 199 cn (cc (cp 1) (cc (cp 0) cn))) cn) (xI xn)
def kX8:Cs:=cc cT (cc (cp 0) (cc (cp 1) cn))
def xX9:Bs:=xI (xc (cc (cf 199 cn (cc (cp 0) (cc (cp 1) cn))) cn) xn)
def eh:Cs:=cc cT cn
def ir:Cs:=cc cI cn
def Q_:Cs:=cc cs cn
def zH:Cs:=cc cU cn
def rM:Cs:=cc cC cn
def zI:Cs:=cc cC (cc cC cn)
def Kx:Cs:=cc cC (cc (cp 0) cn)
def Bv:Bs:=xC xn
def Ri:Cs:=cc lC (cc (cf 228 cn (cc (cp 0) cn)) cn)
def atP:Bs:=xc (cc lC cn) xn
def gJ:Cs:=cc lC cn
def mH:Cs:=cc lC (cc lC cn)
def pH:Cs:=cc cU (cc cI cn)
def Ky:Cs:=cc lC (cc cI cn)
def Rk:Cs:=cc lC (cc (cf 269 cn cn) cn)
def nX:Cs:=cc cT (cc cI (cc cI cn))
def Rl:Cs:=cc cT (cc cI (cc cI (cc cb cn)))
def akW:Cs:=cc cT (cc cI (cc cI (cc (cp 0) (cc (cp 1) (cc (cp 2) cn)))))
def ZG:Bs:=xI (xI (xc (cc cb cn) xn))
def akX:Cs:=cc cT (cc (cf 117 cn (cc (cp 0) (cc (cp 1) (cc (cp 2) cn)))) cn)
def Kz:Cs:=cc lT cn
def Rm:Cs:=cc (cp 0) (cc cT (cc cI cn))
def Fv:Cs:=cc (cp 0) cn
def pI:Cs:=cc (cp 0) (cc cT cn)
def akY:Cs:=cc lF cn
def Rn:Cs:=cc cU (cc cI (cc cI cn))
def Rp:Cs:=cc cC (cc cI (cc cI cn))
def akZ:Cs:=cc hC (cc cC (cc (cp 0) (cc (cp 1) cn)))
def Hs:Bs:=xI (xI xn)
def ak0:Cs:=cc lC (cc hC (cc (cf 144 cn (cc (cp 0) (cc (cp 1) cn))) cn))
def KA:Cs:=cc lC (cc cI (cc cI cn))
def ak1:Cs:=cc (cg (cc cI (cc cI cn))) (cc lC (cc cI cn))
def ak2:Cs:=cc (cg (cc cI (cc cI cn))) (cc cT (cc cI (cc cI cn)))
def KB:Cs:=cc (cp 0) (cc (cp 1) (cc (cp 2) cn))
def ZH:Bs:=xI (xI (xT xn))
def ak3:Cs:=cc cT (cc lI (cc (cf 206 cn (cc (cp 0) (cc (cp 1) (cc (cp 2) cn)))) cn))
def KC:Cs:=cc (cp 0) (cc cT (cc cI (cc cI cn)))
def ak4:Cs:=cc (cp 0) (cc cI cn)
def ak5:Cs:=cc (cp 0) (cc lC cn)
def Ht:Bs:=xI (xT (xI xn))
def ak7:Cs:=cc cT (cc lI (cc (cf 84 cn (cc (cp 0) (cc (cp 1) (cc (cp 2) cn)))) cn))
def KD:Cs:=cc cT (cc cI (cc lC cn))
def Rq:Cs:=cc (cf 152 cn cn) (cc (cp 0) (cc (cp 1) cn))
def Bw:Bs:=xI (xc (cc lC cn) xn)
def ak8:Cs:=cc (cf 153 cn cn) (cc (cp 0) (cc (cp 1) cn))
def ak9:Cs:=cc cI (cc lC cn)
def ak_:Cs:=cc lC (cc (cf 284 cn cn) cn)
def ala:Cs:=cc lC (cc (cf 285 cn (cc (cp 0) cn)) cn)
def Rr:Cs:=cc lC (cc cC cn)
def alc:Cs:=cc lC (cc lC (cc (cf 282 cn cn) cn))
def Fw:Cs:=cc lC (cc cI (cc lC cn))
def KE:Cs:=cc lC (cc cI (cc (cp 0) (cc (cp 1) (cc (cp 2) cn))))
def atQ:Bs:=xI (xc (cc lC cn) (xc (cc (cf 153 cn cn) cn) xn))
def ald:Cs:=cc lC (cc cC (cc (cp 0) (cc (cp 1) cn)))
def ale:Cs:=cc lC (cc lC (cc (cf 235 cn (cc (cp 0) (cc (cp 1) cn))) cn))
def ZI:Bs:=xI (xc (cc lC cn) (xc (cc (cf 152 cn cn) cn) xn))
def KF:Cs:=cc (cg (cc (cf 148 cn (cc (cp 0) (cc (cp 1) (cc (cp 2) cn)))) (cc (cf 148 cn (cc (cp 0) (cc (cp 1) (cc (cp 3) cn)))) cn))) (cc cT (cc cI cn))
def O6:Bs:=xI (xc (cc lC cn) (xc (cc (cf 152 cn cn) cn) (xc (cc (cf 153 cn cn) cn) xn)))
def KG:Cs:=cc cI (cc (cp 0) cn)
def atR:Bs:=xT xn
def Rs:Cs:=cc (cg (cc (cf 148 cn (cc (cp 0) (cc (cp 1) (cc (cp 2) cn)))) (cc (cf 148 cn (cc (cp 0) (cc (cp 1) (cc (cp 3) cn)))) cn))) (cc lT (cc cI (cc (cf 157 cn (cc (cp 4) cn)) cn)))
def ZK:Bs:=xI (xc (cc lC cn) (xc (cc (cf 152 cn cn) cn) (xc (cc (cf 153 cn cn) cn) (xI xn))))
def alf:Cs:=cc (cg (cc (cf 148 cn (cc (cp 0) (cc (cp 1) (cc (cp 2) cn)))) (cc (cf 148 cn (cc (cp 0) (cc (cp 1) (cc (cp 3) cn)))) cn))) (cc lT (cc cI (cc (cf 156 cn (cc (cp 4) cn)) cn)))
def atS:Bs:=xI (xc (cc lC cn) (xc (cc (cf 152 cn cn) cn) (xc (cc (cf 153 cn cn) cn) (xT xn))))
def alg:Cs:=cc lC (cc cI (cc (cp 0) cn))
def Rt:Cs:=cc (cg (cc (cf 158 cn (cc (cp 0) cn)) (cc (cf 158 cn (cc (cp 0) cn)) cn))) (cc cT (cc cI cn))
def Ru:Cs:=cc (cg (cc (cf 158 cn (cc (cp 0) cn)) (cc (cf 158 cn (cc (cp 0) cn)) cn))) (cc lT (cc cI (cc (cf 157 cn (cc (cp 1) cn)) cn)))
def alh:Cs:=cc (cg (cc (cf 158 cn (cc (cp 0) cn)) (cc (cf 158 cn (cc (cp 0) cn)) cn))) (cc lT (cc cI (cc (cf 156 cn (cc (cp 1) cn)) cn)))
def atT:Bs:=xI (xT xn)
def Rv:Cs:=cc (cp 0) (cc cT (cc lC cn))
def alj:Cs:=cc cT (cc lC (cc cT cn))
def alk:Cs:=cc cT (cc lI (cc (cf 259 cn (cc (cp 0) (cc (cp 1) (cc (cp 2) cn)))) cn))
def alm:Cs:=cc cT (cc (cf 296 cn (cc (cp 0) cn)) cn)
def Rx:Cs:=cc cT (cc cI (cc cT (cc cI (cc cI cn))))
def aln:Cs:=cc cT (cc (cf 298 cn (cc (cp 0) cn)) cn)
def Ry:Cs:=cc cT (cc cI (cc cT cn))
def Rz:Cs:=cc (cp 0) (cc cT (cc cT cn))
def alo:Cs:=cc cI (cc lC (cc lT cn))
def alp:Cs:=cc (cp 0) (cc lC (cc cI cn))
def alq:Cs:=cc lC (cc lT cn)
def alr:Cs:=cc lB cn
def mI:Cs:=cc cT (cc cT (cc lB cn))
def RA:Cs:=cc (cp 0) (cc cT (cc cT (cc lB cn)))
def als:Cs:=cc cI (cc lB (cc lT cn))
def akG:Cs:=cc cB cn
def akH:Cs:=cc lB (cc (cf 118 cn cn) cn)
def Kv:Cs:=cc cT (cc lB cn)
def akI:Cs:=cc (cp 0) (cc cT (cc cT (cc cT (cc cT cn))))
def akJ:Cs:=cc cT (cc cT (cc cT (cc cT cn)))
def Q9:Cs:=cc cB (cc (cp 0) (cc (cp 1) cn))
def zG:Cs:=cc cT (cc cT cn)
def akK:Cs:=cc lT (cc lT cn)
def akL:Cs:=cc lI cn
def akM:Cs:=cc cT (cc cI (cc cI (cc cI (cc cI cn))))
def akN:Cs:=cc cU (cc cU cn)
def akO:Cs:=cc lC (cc cb (cc cI (cc lC (cc cI cn))))
def akP:Cs:=cc cT (cc cI (cc lC (cc cI (cc cb cn))))
def Kw:Cs:=cc cT (cc (cp 0) cn)
def O3:Bs:=xc (cc (cp 1) cn) (xc (cc cI (cc cI (cc cI (cc cs (cc lC (cc lT (cc lB (cc lB cn)))))))) xn)
def Ra:Cs:=cc (cp 0) (cc (cf 97 cn (cc (cp 1) cn)) cn)
def Hq:Bs:=xc (cc cI (cc cI (cc cI (cc cs (cc lC (cc lT (cc lB (cc lB cn)))))))) (xc (cc (cp 0) cn) xn)
def Hr:Bs:=xc (cc cI (cc cI (cc cI (cc cs (cc lC (cc lT (cc lB (cc lB cn)))))))) xn
def Rc:Cs:=cc (cp 0) (cc (cf 99 cn (cc (cp 1) cn)) cn)
def ZE:Bs:=xc (cc cI (cc cI (cc cI (cc cs (cc lC (cc lT (cc lB (cc lB cn)))))))) (xI xn)
def Rd:Cs:=cc (cp 0) (cc (cf 105 cn (cc (cp 1) cn)) cn)
def ZF:Bs:=xc (cc (cp 2) cn) (xc (cc lB cn) (xI xn))
def akQ:Cs:=cc lB (cc (cf 55 cn (cc (cp 0) (cc (cp 1) cn))) cn)
def akR:Cs:=cc cB (cc (cp 0) (cc (cp 1) (cc (cp 2) cn)))
def O4:Bs:=xc (cc (cp 3) cn) (xT (xT (xI xn)))
def Re:Cs:=cc lB (cc (cf 60 cn (cc (cp 0) (cc (cp 1) (cc (cp 2) cn)))) cn)
def O5:Bs:=xT (xT xn)
def Rf:Cs:=cc lB (cc (cf 64 cn (cc (cp 0) (cc (cp 1) cn))) cn)
def akS:Cs:=cc cI (cc cT (cc cT cn))
def Rg:Cs:=cc cI (cc cT cn)
def Rh:Cs:=cc cI (cc lB cn)
def akT:Cs:=cc cT (cc lC cn)
def akU:Cs:=cc cI (cc cT (cc cT (cc cT cn)))
def akV:Cs:=cc cT (cc cT (cc cT (cc lC cn)))
def be (κ:Out UU->Option S):Int->Option S:=fun r=>κ (.ret (iI r) [])
def AE (κ:Out UU->Option S):Int×Int×ByteArray×List Tm->Option S:=fun r=>κ (.ret (.agg [(iI r.1),(iI r.2.1),(.str r.2.2.1),(cZ [] .nil),(sT r.2.2.2),(fz [] .nil)]) [])
def oF (κ:Out UU->Option S):Int×Int->Option S:=fun r=>κ (.ret (.tuple [(iI r.1),(iI r.2)]) [])
def a_ (κ:Out UU->Option S):Bool->Option S:=fun r=>κ (.ret (.bool r) [])
def iy (c0:Int) (κ:Out UU->Option S):Bool->Option S:=fun r=>κ (.ret (.bool r) [bI c0])
def j6 (κ:Out UU->Option S):Bool×Int->Option S:=fun r=>κ (.ret (.bool r.1) [.cells [(.func 199 [] [(pt 1),(pt 0)])],bI r.2])
def qX6 (κ:Out UU->Option S):Bool×Int->Option S:=fun r=>κ (.ret (.bool r.1) [bI r.2,.cells [(.func 199 [] [(pt 0),(pt 1)])]])
def Uu (κ:Out UU->Option S):Cl->Option S:=fun r=>κ (.ret (aC r) [])
def Uw (c0:Cl) (κ:Out UU->Option S):Bool->Option S:=fun r=>κ (.ret (.bool r) [bC c0])
def Gl (c0:Cl) (κ:Out UU->Option S):Int->Option S:=fun r=>κ (.ret (iI r) [bC c0])
def apC (c0:List Cl) (κ:Out UU->Option S):Bool->Option S:=fun r=>κ (.ret (.bool r) [.cells [(sC c0)]])
def a8 (κ:Out UU->Option S):List Cl×Int->Option S:=fun r=>κ (.ret (.tuple [(sC r.1),(iI r.2)]) [])
def dl (κ:Out UU->Option S):Int->Option S:=fun r=>κ (.ret (iU r) [])
def jZ (c0 c1:Int) (c2:Bool) (κ:Out UU->Option S):Bool->Option S:=fun r=>κ (.ret (.bool r) [bI c0,bI c1,.cells [(.bool c2)]])
def aV (κ:Out UU->Option S):Tm->Option S:=fun r=>κ (.ret (aT r) [])
def F5 (κ:Out UU->Option S):List Tm->Option S:=fun r=>κ (.ret (sT r) [])
def j5 (κ:Out UU->Option S):Tm×Int->Option S:=fun r=>κ (.ret (aT r.1) [bI r.2])
def apF (κ:Out UU->Option S):Tm×Bool×Int×Int->Option S:=fun r=>κ (.ret (.tuple [(aT r.1),(.bool r.2.1),(iI r.2.2.1)]) [bI r.2.2.2])
def apG (κ:Out UU->Option S):List Cl->Option S:=fun r=>κ (.ret (Kd r) [])
def AG (κ:Out UU->Option S):Int×Int->Option S:=fun r=>κ (.ret (.tuple [(iU r.1),(iI r.2)]) [])
def Uo (κ:Out UU->Option S):Cl×Int->Option S:=fun r=>κ (.ret (.tuple [(aC r.1),(iI r.2)]) [])
def apH (c0 c1:Int) (κ:Out UU->Option S):List Cl×Int->Option S:=fun r=>κ (.ret (.tuple [(Kd r.1),(iI r.2)]) [bI c0,bI c1])
def F6 (c0 c1:Int) (κ:Out UU->Option S):List Cl×Int->Option S:=fun r=>κ (.ret (.tuple [(sC r.1),(iI r.2)]) [bI c0,bI c1])
def apI (κ:Out UU->Option S):Pan Int (List Cl)->Option S:=fun r=>Pan.elim r (fun r=>κ (.ret (sC r) [])) (fun e=>κ (.panic (.iface 30 (iI e)) []))
def dP (κ:Out UU->Option S):Pan Int Tm->Option S:=fun r=>Pan.elim r (fun r=>κ (.ret (aT r) [])) (fun e=>κ (.panic (.iface 30 (iI e)) []))
def apJ (c0 c1:Int) (c2:Tm) (κ:Out UU->Option S):Pan Int Tm->Option S:=fun r=>Pan.elim r (fun r=>κ (.ret (aT r) [bI c0,bI c1,bT c2])) (fun e=>κ (.panic (.iface 30 (iI e)) [bI c0,bI c1,bT c2]))
def F7 (c0 c1:Int) (c2:Tm) (κ:Out UU->Option S):Tm×Int->Option S:=fun r=>κ (.ret (.tuple [(aT r.1),(iI r.2)]) [bI c0,bI c1,bT c2])
def dQ (κ:Out UU->Option S):Tm×Int->Option S:=fun r=>κ (.ret (.tuple [(aT r.1),(iI r.2)]) [])
def F8 (κ:Out UU->Option S):Int×Int×ByteArray->Option S:=fun r=>κ (.ret (.agg [(iI r.1),(iI r.2.1),(.str r.2.2),(cZ [] .nil),(gO [] .nil),(fz [] .nil)]) [])
def apK (κ:Out UU->Option S):Int->Option S:=fun r=>κ (.ret (.tuple []) [bI r])
def F9 (κ:Out UU->Option S):Int->Option S:=fun r=>κ (.ret (pt 0) [bI r])
def Uq (κ:Out UU->Option S):List Cl×Int->Option S:=fun r=>κ (.ret (sC r.1) [bI r.2])
def Ur (c0:Int) (c1:Tm) (c2:Int) (κ:Out UU->Option S):Pan Int Tm->Option S:=fun r=>Pan.elim r (fun r=>κ (.ret (aT r) [bI c0,bT c1,bI c2])) (fun e=>κ (.panic (.iface 30 (iI e)) [bI c0,bT c1,bI c2]))
def ql (c0:Int) (c1:Tm) (c2:Int) (κ:Out UU->Option S):Tm×Int->Option S:=fun r=>κ (.ret (.tuple [(aT r.1),(iI r.2)]) [bI c0,bT c1,bI c2])
def apL (c0:Int) (c1:List Cl) (κ:Out UU->Option S):Unit->Option S:=fun r=>κ (.ret (.func 148 [] [(pt 0),(pt 1),(pt 2)]) [bI c0,.cells [(sC c1)],.cells [(.func 152 [] [])]])
def apM (c0:Int) (c1:List Cl) (κ:Out UU->Option S):Unit->Option S:=fun r=>κ (.ret (.func 148 [] [(pt 0),(pt 1),(pt 2)]) [bI c0,.cells [(sC c1)],.cells [(.func 153 [] [])]])
def apN (κ:Out UU->Option S):Int×List Cl->Option S:=fun r=>κ (.ret (.agg [(.func 148 [] [(pt 0),(pt 1),(pt 2)]),(.func 148 [] [(pt 0),(pt 1),(pt 3)])]) [bI r.1,.cells [(sC r.2)],.cells [(.func 152 [] [])],.cells [(.func 153 [] [])]])
def jt (κ:Out UU->Option S):List Cl->Option S:=fun r=>κ (.ret (sC r) [])
def apO (κ:Out UU->Option S):Cl×Bool->Option S:=fun r=>κ (.ret (.tuple [(aC r.1),(.bool r.2)]) [])
def apP (c0:Cl) (κ:Out UU->Option S):Cl×Bool->Option S:=fun r=>κ (.ret (.tuple [(aC r.1),(.bool r.2)]) [bC c0])
def F_ (c0:Cl) (κ:Out UU->Option S):List Cl->Option S:=fun r=>κ (.ret (sC r) [bC c0])
def apQ (c0:Int) (c1:List Cl) (κ:Out UU->Option S):List Cl×Int->Option S:=fun r=>κ (.ret (.tuple [(sC r.1),(iI r.2)]) [bI c0,.cells [(sC c1)],.cells [(.func 153 [] [])]])
def AH (c0:Int) (c1:List Cl) (κ:Out UU->Option S):List Cl×Int->Option S:=fun r=>κ (.ret (.tuple [(sC r.1),(iI r.2)]) [bI c0,.cells [(sC c1)]])
def apR (c0:Int) (c1:List Cl) (κ:Out UU->Option S):List Cl×Int->Option S:=fun r=>κ (.ret (.tuple [(sC r.1),(iI r.2)]) [bI c0,.cells [(sC c1)],.cells [(.func 152 [] [])]])
def apS (c0:Int) (c1:List Cl) (κ:Out UU->Option S):List Cl×Int->Option S:=fun r=>κ (.ret (.tuple [(sC r.1),(iI r.2)]) [bI c0,.cells [(sC c1)],.cells [(.func 152 [] [])],.cells [(.func 153 [] [])]])
def apT (c0:Tm) (κ:Out UU->Option S):Int->Option S:=fun r=>κ (.ret (iI r) [bT c0])
def apU (c0:Int) (κ:Out UU->Option S):Int->Option S:=fun r=>κ (.ret (iI r) [bI c0])
def Ga (c0:Int) (c1:List Cl) (κ:Out UU->Option S):Tm×Int->Option S:=fun r=>κ (.ret (.tuple [(aT r.1),(iI r.2)]) [bI c0,.cells [(sC c1)],.cells [(.func 152 [] [])],.cells [(.func 153 [] [])]])
def Gb (c0:Int) (c1:List Cl) (c4:Int) (κ:Out UU->Option S):List Tm×Int->Option S:=fun r=>κ (.ret (.tuple [(sT r.1),(iI r.2)]) [bI c0,.cells [(sC c1)],.cells [(.func 152 [] [])],.cells [(.func 153 [] [])],bI c4])
def Gc (c0:Int) (c1:List Cl) (c4:Tm) (κ:Out UU->Option S):List Tm×Int->Option S:=fun r=>κ (.ret (.tuple [(sT r.1),(iI r.2)]) [bI c0,.cells [(sC c1)],.cells [(.func 152 [] [])],.cells [(.func 153 [] [])],bT c4])
def apV (κ:Out UU->Option S):Int->Option S:=fun r=>κ (.ret (.agg [(.func 158 [] [(pt 0)]),(.func 158 [] [(pt 0)])]) [bI r])
def AI (c0:Int) (κ:Out UU->Option S):List Cl×Int->Option S:=fun r=>κ (.ret (.tuple [(sC r.1),(iI r.2)]) [bI c0])
def Ge (c0:Int) (κ:Out UU->Option S):Tm×Int->Option S:=fun r=>κ (.ret (.tuple [(aT r.1),(iI r.2)]) [bI c0])
def Gf (c0 c1:Int) (κ:Out UU->Option S):List Tm×Int->Option S:=fun r=>κ (.ret (.tuple [(sT r.1),(iI r.2)]) [bI c0,bI c1])
def Gg (c0:Int) (c1:Tm) (κ:Out UU->Option S):List Tm×Int->Option S:=fun r=>κ (.ret (.tuple [(sT r.1),(iI r.2)]) [bI c0,bT c1])
def apW (κ:Out UU->Option S):Tm×Int×Int->Option S:=fun r=>κ (.ret (.tuple [(aT r.1),(iI r.2.1)]) [bI r.2.2])
def d7 (κ:Out UU->Option S):Bool×Int->Option S:=fun r=>κ (.ret (.bool r.1) [bI r.2])
def apX (κ:Out UU->Option S):Int×Int×ByteArray×List Cl×List Tm->Option S:=fun r=>κ (.ret (.agg [(iI r.1),(iI r.2.1),(.str r.2.2.1),(sC r.2.2.2.1),(sT r.2.2.2.2),(fz [] .nil)]) [])
def Us (κ:Out UU->Option S):(Br Tm)->Option S:=fun r=>κ (.ret (aB r) [])
def apZ (κ:Out UU->Option S):Int×Int×ByteArray×List Tm×List (Br Tm)->Option S:=fun r=>κ (.ret (.agg [(iI r.1),(iI r.2.1),(.str r.2.2.1),(cZ [] .nil),(gO r.2.2.2.1 .full),(sB r.2.2.2.2)]) [])
def Ut (κ:Out UU->Option S):Int×Int×ByteArray×List Tm×List (Br Tm)->Option S:=fun r=>κ (.ret (.agg [(iI r.1),(iI r.2.1),(.str r.2.2.1),(cZ [] .nil),(sT r.2.2.2.1),(sB r.2.2.2.2)]) [])
def Gi (κ:Out UU->Option S):Tm×Bool×Int->Option S:=fun r=>κ (.ret (.tuple [(aT r.1),(.bool r.2.1),(iI r.2.2)]) [])
def Gj (κ:Out UU->Option S):List (Br Tm)->Option S:=fun r=>κ (.ret (zx r) [])
def mT (κ:Out UU->Option S):List (Br Tm)->Option S:=fun r=>κ (.ret (sB r) [])
def Uv (κ:Out UU->Option S):Int×Int×ByteArray×List Tm×Int->Option S:=fun r=>κ (.ret (.agg [(iI r.1),(iI r.2.1),(.str r.2.2.1),(cZ [] .nil),(sT r.2.2.2.1),(fz [] .nil)]) [bI r.2.2.2.2])
def Gk (κ:Out UU->Option S):List Int->Option S:=fun r=>κ (.ret (frI r) [])
def Ux (eN eO:Int) (eP:ByteArray) (eQ:List Cl) (eR:List Tm) (eS fH:List (Br Tm)) (κ:Out UU->Option S):List Tm×Int->Option S:=fun r=>κ (.ret (sT r.1) [.cells [(pt 1)],.cells [(iI r.2),(iI eN),(iI eO),(.str eP),(sC eQ),(sT eR),(sB eS),(sB fH)]])
def mU (aL aM:Int) (aN:ByteArray) (aO:List Cl) (aP:List Tm) (aQ c0_7:List (Br Tm)) (κ:Out UU->Option S):List (Br Tm)×Int->Option S:=fun r=>κ (.ret (sB r.1) [.cells [(iI r.2),(iI aL),(iI aM),(.str aN),(sC aO),(sT aP),(sB aQ),(sB c0_7)],.cells [(pt 0)]])
def Uy (κ:Out UU->Option S):List (Br Tm)×Int->Option S:=fun r=>κ (.ret (sB r.1) [.cells [.int .i64 0,(iI r.2)]])
def wa (aL aM:Int) (aN:ByteArray) (aO:List Cl) (aP:List Tm) (aQ c0_7:List (Br Tm)) (κ:Out UU->Option S):Int×Int×ByteArray×List Tm×Int->Option S:=fun r=>κ (.ret (.agg [(iI r.1),(iI r.2.1),(.str r.2.2.1),(cZ [] .nil),(sT r.2.2.2.1),(fz [] .nil)]) [.cells [(iI r.2.2.2.2),(iI aL),(iI aM),(.str aN),(sC aO),(sT aP),(sB aQ),(sB c0_7)]])
def ap0 (c0:Int) (κ:Out UU->Option S):List Tm->Option S:=fun r=>κ (.ret (sT r) [bI c0])
def AJ (bk aL aM:Int) (aN:ByteArray) (aO:List Cl) (aP:List Tm) (aQ c0_7:List (Br Tm)) (c1:Int) (κ:Out UU->Option S):List (Br Tm)->Option S:=fun r=>κ (.ret (sB r) [.cells [(iI bk),(iI aL),(iI aM),(.str aN),(sC aO),(sT aP),(sB aQ),(sB c0_7)],bI c1])
def ap1 (gA eN eO:Int) (eP:ByteArray) (eQ:List Cl) (eR:List Tm) (eS fH:List (Br Tm)) (κ:Out UU->Option S):Int×Int×ByteArray×List Tm×List (Br Tm)->Option S:=fun r=>κ (.ret (.tuple [(.agg [(iI r.1),(iI r.2.1),(.str r.2.2.1),(cZ [] .nil),(sT r.2.2.2.1),(fz [] .nil)]),(sB r.2.2.2.2)]) [.cells [(pt 1)],.cells [(iI gA),(iI eN),(iI eO),(.str eP),(sC eQ),(sT eR),(sB eS),(sB fH)]])
def ap2 (κ:Out UU->Option S):Int×Int×ByteArray×List Cl×List Tm->Option S:=fun r=>κ (.ret (.agg [(iI r.1),(iI r.2.1),(.str r.2.2.1),(sC r.2.2.2.1),(gO r.2.2.2.2 .full),(fz [] .nil)]) [])
def ap3 (aL aM:Int) (aN:ByteArray) (aO:List Cl) (aP:List Tm) (aQ c0_7:List (Br Tm)) (κ:Out UU->Option S):Int×Int×ByteArray×List Tm×List (Br Tm)×Int->Option S:=fun r=>κ (.ret (.agg [(iI r.1),(iI r.2.1),(.str r.2.2.1),(cZ [] .nil),(sT r.2.2.2.1),(sB r.2.2.2.2.1)]) [.cells [(iI r.2.2.2.2.2),(iI aL),(iI aM),(.str aN),(sC aO),(sT aP),(sB aQ),(sB c0_7)]])
def ap4 (c1:List (Br Tm)) (κ:Out UU->Option S):(Br Tm)×Int->Option S:=fun r=>κ (.ret (aB r.1) [.cells [(pt 2)],.cells [(sB c1)],bI r.2])
def FZ (c1:List (Br Tm)) (κ:Out UU->Option S):List (Br Tm)×Int->Option S:=fun r=>κ (.ret (zx r.1) [.cells [(pt 2)],.cells [(sB c1)],bI r.2])
def apD (c1 c2:Tm) (κ:Out UU->Option S):(Br Tm)×Int->Option S:=fun r=>κ (.ret (aB r.1) [.cells [(pt 3)],bT c1,bT c2,bI r.2])
def F0 (c1 c2:Tm) (κ:Out UU->Option S):List (Br Tm)×Int->Option S:=fun r=>κ (.ret (zx r.1) [.cells [(pt 3)],bT c1,bT c2,bI r.2])
def apE (c0 c1:Tm) (κ:Out UU->Option S):(Br Tm)->Option S:=fun r=>κ (.ret (aB r) [bT c0,bT c1])
def F1 (c0 c1:Tm) (κ:Out UU->Option S):List (Br Tm)->Option S:=fun r=>κ (.ret (zx r) [bT c0,bT c1])
def AF (κ:Out UU->Option S):Pan Tm (Int×Int×ByteArray×List Tm)->Option S:=fun r=>Pan.elim r (fun r=>κ (.ret (.agg [(iI r.1),(iI r.2.1),(.str r.2.2.1),(cZ [] .nil),(sT r.2.2.2),(fz [] .nil)]) [])) (fun e=>κ (.ret (aT e) []))
end
end Go.Proofs.YtgajalidbabccaaGreatDoor
