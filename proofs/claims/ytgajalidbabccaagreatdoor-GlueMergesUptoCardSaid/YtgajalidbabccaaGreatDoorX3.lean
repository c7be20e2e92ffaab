/- Part 3 of a proof: the sources, with their names and remarks, lie in wip/. -/
import Derived.Test.YtgajalidbabccaaGreatDoorX2
import Derived.Test.YtgajalidbabccaaGreatDoorRows
import Derived.ProofKit
import Derived.OpenShut
import Derived.ChangeArms
import Derived.Deep.Slices
import Derived.Shelf.SlSortCmp.NoneTotal
import Derived.Ground.SlsfProg
import Derived.Test.YtgajalidbabccaaGreatDoorProg
import Derived.Shelf.Spec.TrailingZeros
import Derived.RangeFuncBound
import Derived.RangeFuncLeaves
import Derived.RangeFuncOwn
import Derived.OwnWalkIn
import Derived.TacticsInMore
import Derived.LoopNIn
import Derived.LoopIn
import Derived.Maps.RangeWalk
import Derived.Maps.AppendAt
import Derived.Test.YtgajalidbabccaaGreatDoorCards
import Derived.Test.YtgajalidbabccaaGreatDoorTie
import Derived.WalkKit
import Derived.ReadAgain
import Derived.Deep.DeepHandedRow
import Derived.Lib.LaidTab
import Derived.KernelRfl
open Array renaming getD_eq_getD_getElem?→cH,getElem?_eq_getElem→kZ,getElem?_eq_some_iff→f_
open Bool renaming and_eq_true→aF,eq_iff_iff→jK,not_eq_true'→kn,not_false→dQ,not_true→cF,true_and→hX
open ByteArray renaming empty→av
open Eq renaming trans→aj
open Go.IntKind renaming wrap→ag
open Int renaming toNat_natCast→gb
open List renaming all_eq_true→dI,append_assoc→gZ,append_nil→eU,getElem?_eq_getElem→dm,getElem?_eq_some_iff→cD,getElem?_map→ir,length→g4,length_append→it,length_cons→dD,length_nil→iV,map_cons→fG,mem_append→dk,mem_cons→d7,mem_filter→iW,mem_map→dA,mem_range→gc,nil_append→eo,range→d9
open Nat renaming beq→ay,ble→dr,eq_of_testBit_eq→h8,le_refl→dv,le_trans→gf,lt_of_le_of_lt→ko,lt_of_lt_of_le→gM,pow_le_pow_right→jL,zero_add→fh
open Option renaming bind→af,bind_some→aI
set_option linter.unusedVariables false
set_option linter.unusedSimpArgs false
namespace Go.Proofs.YtgajalidbabccaaGreatDoor
open Go PI
set_option maxRecDepth 20000
variable {S:Type} {k:Nat}
def eG (l:List Nat):Nat:=(l.map (2^ ·)).sum
theorem Z4 {x a:Nat} (h:x.testBit a=false):x+2^a=x|||2^a:=by
 have h1:x=2^(a+1)*(x/2^(a+1))+x%2^(a+1):=(Nat.div_add_mod _ _).symm
 have hlt:x%2^(a+1)<2^a:=by
  have hb:(x%2^(a+1)).testBit a=false:=by grind
  grind [Nat.lt_pow_two_of_testBit,Nat.testBit_lt_two_pow]
 generalize x/2^(a+1)=q at h1
 generalize x%2^(a+1)=r at h1 hlt
 have hp:(2:Nat)^(a+1)=2^a*2:=Nat.pow_succ 2 a
 have e1:2^a+r=2^a|||r:=by
  have:=Nat.two_pow_add_eq_or_of_lt hlt 1
  grind
 have e2:x=2^(a+1)*q|||r:=by grind [Nat.two_pow_add_eq_or_of_lt]
 grind [Nat.two_pow_add_eq_or_of_lt]
theorem rf: ∀ (l:List Nat),l.Nodup-> ∀j,(eG l).testBit j=decide (j∈l):=by
 intro l
 induction l with
 |nil=>grind [eG]
 |cons a l ih=>
  intro hn j
  have hn':=List.nodup_cons.1 hn
  have ha:(eG l).testBit a=false:=by grind
  have e:eG (a::l)=eG l|||2^a:=by
   grind [Z4,eG]
  grind
theorem alv: ∀ (l:List Nat),(∀x∈l,x<24)->eG l<=l.length*8388608:=by
 intro l
 induction l with
 |nil=>intro _;simp [eG]
 |cons a l ih=>
  intro h
  have h1:=ih fun x hx=>h x (by simp [hx])
  have h2:2^a<=2^23:=jL (by decide) (by have:=h a (by simp);omega)
  grind [eG]
def dN (m:Nat):List Nat:=(d9 24).filter m.testBit
theorem rC (m:Nat):(dN m).Nodup:=List.nodup_range.filter _
theorem mem_bitsN {m j:Nat}:j∈dN m↔j<24/\m.testBit j=true:=by simp [dN]
theorem ku (m:Nat):(dN m).length<=24:=by
 grind [dN]
theorem k_ (j:Nat):M24.testBit j=decide (j<24):=by
 rw [show M24=2^24-1 from rfl,Nat.testBit_two_pow_sub_one]
theorem I0 (m:Nat):eG (dN m)=m&&&M24:=by
 apply h8
 grind [rf,rC,k_,mem_bitsN]
theorem agm (Y:Int->OS S) (n:Nat) (hn:n<=30): ∀ (d i m:Nat),i+d=n->d<m->s_ k Y (n:Int) m ((2^i:Nat):Int) (i:Int)=Y ((2^n:Nat):Int):=by
 intro d
 induction d with
 |zero=>
  intro i m h hm
  obtain ⟨m,rfl⟩: ∃q,m=q+1:=⟨m-1,by omega⟩
  grind [s_,zq,bS]
 |succ d ih=>
  intro i m h hm
  obtain ⟨m,rfl⟩: ∃q,m=q+1:=⟨m-1,by omega⟩
  simp only [s_,zq,bS]
  have hp:2^i<=2^30:=jL (by decide) (by omega)
  have h30:(2:Nat)^30=1073741824:=by decide
  have hc:(0:Int)<=((2^i:Nat):Int):=Int.natCast_nonneg _
  rw [if_pos (by omega),fY (by omega) (by omega),fY (by omega) (by omega)]
  have e1:((2^i:Nat):Int)*2=((2^(i+1):Nat):Int):=by rfl
  grind
theorem I5 (hk:Fu k) (n:Nat) (hn:n<=30) (Y:Int->OS S):rV k (n:Int) Y=Y ((2^n:Nat):Int):=by
 simp only [rV,Jz]
 have:=agm (k:=k) Y n hn n 0 k (by omega) (by omega)
 omega
theorem alQ (hk:Fu k) {m:Nat} (hm:m<4294967296) (Y:Bool->OS S):rU k (m:Int) Y=Y (decide (m<16777216)):=by
 simp only [rU,ap hk]
 rw [show (24:Int)=((24:Nat):Int) from rfl,I5 hk 24 (by omega),fY (by omega) (by omega)]
 grind [decide]
theorem T5 (hk:Fu k) {m:Nat} (hm:m<4294967296) (i:Int) (Y:Bool->OS S):gQ k (m:Int) i Y=Y (decide (0<=i/\i<24)&&m.testBit i.toNat):=by
 simp only [gQ,bS,ap hk]
 by_cases h0:i>=0
 ·rw [if_pos h0]
  by_cases h1:i<24
  ·rw [if_pos h1]
   obtain ⟨n,rfl⟩: ∃n:Nat,i=n:=⟨i.toNat,by omega⟩
   have hp:0<2^n:=Nat.two_pow_pos n
   rw [I5 hk n (by omega),lS _ (by omega)]
   rw [fY (n:=(m:Int)) (by omega) (by omega)]
   have e1:Int.tdiv (m:Int) ((2^n:Nat):Int)=((m/2^n:Nat):Int):=(Int.ofNat_tdiv m (2^n)).symm
   rw [e1]
   have hd:m/2^n<=m:=Nat.div_le_self _ _
   have hc:(0:Int)<=((m/2^n:Nat):Int):=Int.natCast_nonneg _
   rw [fY (by omega) (by omega)]
   have e2:Int.tmod ((m/2^n:Nat):Int) 2=((m/2^n%2:Nat):Int):=(Int.ofNat_tmod (m/2^n) 2).symm
   rw [e2,decide_eq_true (by omega),hX,gb]
   congr 1
   grind
  grind
 grind
def ints (l:List Nat):List Int:=l.map Int.ofNat
theorem GE (l:List Nat) (i:Nat):(ints l)[i]? =(l[i]?).map Int.ofNat:=by simp [ints]
theorem iE (l:List Nat):(ints l).length=l.length:=by simp [ints]
theorem afy (hk:Fu k) (Y:Int->OS S) (l:List Nat) (hl:l.length<=64) (h24: ∀x∈l,x<24): ∀ (d i m:Nat),i+d=l.length->d<m->s8 k Y (ints l) m ((eG (l.take i):Nat):Int) (i:Int)=Y ((eG l:Nat):Int):=by
 have hbound: ∀i,eG (l.take i)<=64*8388608:=by
  grind [alv]
 intro d
 induction d with
 |zero=>
  intro i m h hm
  obtain ⟨m,rfl⟩: ∃q,m=q+1:=⟨m-1,by omega⟩
  grind [s8,zo,bS,iE,nR]
 |succ d ih=>
  intro i m h hm
  obtain ⟨m,rfl⟩: ∃q,m=q+1:=⟨m-1,by omega⟩
  simp only [s8,zo,bS,iE,ap hk]
  have hi:i<l.length:=by omega
  rw [if_pos (by omega),wV,GE,dm hi]
  simp only [Option.map_some,aI]
  have hx:=h24 _ (List.getElem_mem hi)
  have hb:=hbound i
  rw [show Int.ofNat l[i]=((l[i]:Nat):Int) from rfl,I5 hk _ (by omega)]
  have hp:2^l[i]<=2^24:=jL (by decide) (by omega)
  have h24:(2:Nat)^24=16777216:=by decide
  have hc:(0:Int)<=((2^l[i]:Nat):Int):=Int.natCast_nonneg _
  rw [fY (by omega) (by omega),fY (by omega) (by omega)]
  have e1:((eG (l.take i):Nat):Int)+((2^l[i]:Nat):Int)=((eG (l.take (i+1)):Nat):Int):=by
   grind [List.take_add_one,eG]
  grind
theorem uu (hk:Fu k) (l:List Nat) (hl:l.length<=64) (h24: ∀x∈l,x<24) (Y:Int->OS S):l7 k (ints l) Y=Y ((eG l:Nat):Int):=by
 simp only [l7,Jx]
 have:=afy hk Y l hl h24 l.length 0 k (by omega) (by omega)
 grind [eG]
theorem afw (hk:Fu k) (Y:List Int->OS S) {q:Nat} (hq:q<4294967296): ∀ (d i m:Nat),i+d=24->d<m->xa k Y (q:Int) m (ints ((d9 i).filter q.testBit)) (i:Int)=Y (ints (dN q)):=by
 intro d
 induction d with
 |zero=>
  intro i m h hm
  obtain ⟨m,rfl⟩: ∃q,m=q+1:=⟨m-1,by omega⟩
  have:i=24:=by omega
  subst this
  rfl
 |succ d ih=>
  intro i m h hm
  obtain ⟨m,rfl⟩: ∃q,m=q+1:=⟨m-1,by omega⟩
  simp only [xa,E2,bS,ap hk]
  rw [if_pos (by omega),T5 hk hq,decide_eq_true (by omega),hX,gb,fY (by omega) (by omega)]
  have e2:(i:Int)+1=((i+1:Nat):Int):=by simp
  have hlen:(ints ((d9 i).filter q.testBit)).length<=24:=by
   grind [iE]
  rw [e2]
  cases hb:q.testBit i with
  |true=>
   rw [ao,bA (by grind)]
   have:ints ((d9 i).filter q.testBit)++[(i:Int)]=ints ((d9 (i+1)).filter q.testBit):=by
    grind [List.range_succ,ints]
   grind
  |false=>
   rw [al]
   have:ints ((d9 i).filter q.testBit)=ints ((d9 (i+1)).filter q.testBit):=by
    grind [List.range_succ]
   grind
theorem ut (hk:Fu k) {q:Nat} (hq:q<4294967296) (Y:List Int->OS S):l6 k (q:Int) Y=Y (ints (dN q)):=by
 simp only [l6,Jw]
 have:=afw hk Y hq 24 0 k (by omega) (by omega)
 grind [ints]
theorem afz (hk:Fu k) (Y:Int->OS S) (n:Int) (l:List Nat) (hl:l.length<=64) (h24: ∀x∈l,x<24): ∀ (d i m:Nat),i+d=l.length->d<m->
  s9 k Y n (ints l) m (ints ((l.take i).filter fun x:Nat=> !((x:Int)==n))) (i:Int)=Y ((eG (l.filter fun x:Nat=> !((x:Int)==n)):Nat):Int):=by
 intro d
 induction d with
 |zero=>
  intro i m h hm
  obtain ⟨m,rfl⟩: ∃q,m=q+1:=⟨m-1,by omega⟩
  grind [s9,zp,bS,iE,ap,uu]
 |succ d ih=>
  intro i m h hm
  obtain ⟨m,rfl⟩: ∃q,m=q+1:=⟨m-1,by omega⟩
  simp only [s9,zp,bS,iE,ap hk]
  have hi:i<l.length:=by omega
  rw [if_pos (by omega),wV,GE,dm hi]
  simp only [Option.map_some,aI]
  rw [fY (n:=(i:Int)+1) (by omega) (by omega)]
  have e2:(i:Int)+1=((i+1:Nat):Int):=by simp
  rw [e2,show Int.ofNat l[i]=((l[i]:Nat):Int) from rfl]
  have et:(l.take (i+1)).filter (fun x:Nat=> !((x:Int)==n))=(l.take i).filter (fun x:Nat=> !((x:Int)==n))++(if !((l[i]:Int)==n) then [l[i]] else []):=by
   grind [List.take_add_one]
  grind [ao,bA,ints,al]
theorem yy (hk:Fu k) {q:Nat} (hq:q<4294967296) (i:Int) (Y:Int->OS S):kB k (q:Int) i Y=Y (if 0<=i/\i<24 then ((gI (q&&&M24) (2^i.toNat):Nat):Int) else ((q&&&M24:Nat):Int)):=by
 simp only [kB,Jy,ap hk,ut hk hq]
 have:=afz hk Y i (dN q) (by have:=ku q;omega) (fun x hx=>(mem_bitsN.1 hx).1) (dN q).length 0 k (by omega) (by have:=ku q;omega)
 simp only [List.take_zero,List.filter_nil] at this
 have h0:(ints []:List Int)=[]:=rfl
 rw [h0] at this
 refine aj this ?_
 congr 1
 have hnd:((dN q).filter fun x:Nat=> !((x:Int)==i)).Nodup:=(rC q).filter _
 by_cases h:0<=i/\i<24
 ·rw [if_pos h]
  congr 1
  apply h8
  grind [rf,o0,k_,mem_bitsN]
 grind [I0,List.filter_eq_self,mem_bitsN]
theorem alR (hk:Fu k) {q:Nat} (hq:q<4294967296) (i:Int) (Y:Int->OS S):wc k (q:Int) i Y=Y (if 0<=i/\i<24 then (((q&&&M24)|||2^i.toNat:Nat):Int) else ((q&&&M24:Nat):Int)):=by
 simp only [wc,bS,ap hk]
 have hq24:q&&&M24<4294967296:=uQ (n:=32) hq
 by_cases h0:i<0
 ·grind [yy]
 ·rw [if_neg h0]
  by_cases h1:i>=24
  ·grind [yy]
  ·rw [if_neg h1,yy hk hq,if_pos (by omega),if_pos (by omega)]
   obtain ⟨n,rfl⟩: ∃n:Nat,i=n:=⟨i.toNat,by omega⟩
   have hw:gI (q&&&M24) (2^n)<4294967296:=xO (n:=32) hq24
   rw [gb,ut hk hw,bA (by grind [iE,ku])]
   have e:ints (dN (gI (q&&&M24) (2^n)))++[(n:Int)]=ints (dN (gI (q&&&M24) (2^n))++[n]):=by simp [ints]
   rw [e,uu hk _ (by grind [ku]) (fun x hx=>by
    grind [mem_bitsN])]
   congr 2
   apply h8
   intro j
   rw [rf]
   all_goals grind [k_,mem_bitsN,o0,rC]
theorem wU {α:Type} (p r:List α) (x:α):ak (p++x::r) (p.length:Int)=some x:=by simp [ak]
theorem alw {α:Type} (p r:List α) (x y:α):(p++x::r).set p.length y=(p++[y])++r:=by simp
theorem nX {m:Nat} (h:m<16777216) {j:Nat} (hj:m.testBit j=true):j<24:=by
 apply Classical.byContradiction
 intro hn
 have:m<2^j:=gM h (jL (n:=2) (i:=24) (j:=j) (by decide) (by omega))
 grind [Nat.testBit_lt_two_pow]
theorem NJ (m:Nat):m<16777216↔ ∀j,m.testBit j=true->j<24:=by
 constructor
 ·intro h j hj;exact nX h hj
 ·intro h
  apply Nat.lt_pow_two_of_testBit (n:=24)
  grind
def gY (n b x:Nat):Nat:=if x<n then x else x+b
theorem afv (hk:Fu k) (Y:Int×Int->OS S) (n b:Nat) (hn:n<9223372036854775808) (hb:b<9223372036854775808):
  ∀ (r p:List Nat) (m:Nat),(p++r).length<=24->(∀x∈r,x<24)->r.length<m->(∀x∈p,x<24)->
  qj k Y (n:Int) (b:Int) m (ints (p++r)) (p.length:Int)=
   if (∃x∈r,n<=x/\24<=x+b) then Y (0,10) else Y (((eG (p++r.map (gY n b)):Nat):Int),0):=by
 intro r
 induction r with
 |nil=>
  intro p m hl h24 hm hp
  obtain ⟨m,rfl,hm⟩:=aq hm
  grind [qj,zn,bS,iE,ap,uu]
 |cons x r ih=>
  intro p m hl h24 hm hp
  obtain ⟨m,rfl,hm⟩:=aq hm
  have hx:=h24 x (by simp)
  have hl':p.length+(r.length+1)<=24:=by grind
  have e0:ints (p++x::r)=ints p++(x:Int)::ints r:=by simp [ints]
  have el:(p.length:Int)=((ints p).length:Int):=by rw [iE]
  simp only [qj,zn,bS,ap hk]
  rw [if_pos (by grind),e0,el,wU]
  simp only [aI]
  have ew:ag .i64 (((ints p).length:Int)+1)=(((p++[x]).length:Nat):Int):=by
   grind [fY]
  have key: ∀y:Nat,y<24->qj k Y (n:Int) (b:Int) m (ints p++(y:Int)::ints r) (((p++[x]).length:Nat):Int)=if (∃x∈r,n<=x/\24<=x+b) then Y (0,10) else Y (((eG ((p++[y])++r.map (gY n b)):Nat):Int),0):=by
   intro y hy
   have:=ih (p++[y]) m (by grind) (fun z hz=>h24 z (by simp [hz])) (by grind) (by
    grind)
   grind [ints]
  rw [ew]
  by_cases hxn:x<n
  ·rw [if_pos (by omega),key x hx]
   have e1:gY n b x=x:=by grind [gY]
   have e2:(∃z∈x::r,n<=z/\24<=z+b)↔(∃z∈r,n<=z/\24<=z+b):=by
    grind
   simp only [e2,fG,e1,gZ,List.singleton_append]
  ·rw [if_neg (by omega),fY (n:=24-(x:Int)) (by omega) (by omega)]
   by_cases hby:24<=x+b
   ·rw [if_pos (by omega),if_pos ⟨x,by simp,by omega,hby⟩]
   ·rw [if_neg (by omega),fY (n:=(x:Int)+(b:Int)) (by omega) (by omega),gb]
    have e3:(x:Int)+(b:Int)=((x+b:Nat):Int):=by simp
    rw [e3,alw,gZ,List.singleton_append,key (x+b) (by omega)]
    have e1:gY n b x=x+b:=by grind [gY]
    have e2:(∃z∈x::r,n<=z/\24<=z+b)↔(∃z∈r,n<=z/\24<=z+b):=by
     grind
    simp only [e2,fG,e1,gZ,List.singleton_append]
theorem E8 (m n j:Nat):(kN m n).testBit j=(m.testBit j&&decide (j<n/\j<24)):=by
 grind [kN,k_]
theorem KV (m n j:Nat):(fI m n).testBit j=(m.testBit j&&decide (n<=j/\j<24)):=by
 grind [fI,o0,k_]
theorem G9 (m n b:Nat):iF m n b=if (∃x∈dN m,n<=x/\24<=x+b) then (0,10) else (eG ((dN m).map (gY n b)),0):=by
 have hnd:((dN m).map (gY n b)).Nodup:=by
  grind [gY,rC]
 have hset: ∀j,(eG ((dN m).map (gY n b))).testBit j=((kN m n).testBit j||(decide (b<=j)&&(fI m n).testBit (j-b))):=by
  intro j
  rw [rf _ hnd,E8,KV,jK]
  simp only [decide_eq_true_eq,dA,mem_bitsN,Bool.or_eq_true,aF]
  grind [gY]
 have hhigh: ∀j,(fI m n).testBit j=true↔(j∈dN m/\n<=j):=by
  grind [KV,mem_bitsN]
 unfold iF
 by_cases h0:fI m n=0
 ·rw [if_pos h0,if_neg]
  ·congr 1
   apply h8
   grind
  grind
 ·rw [if_neg h0]
  have hex: ∃j,(fI m n).testBit j=true:=by
   apply Classical.byContradiction
   intro hne
   apply h0
   apply h8
   grind
  have hmul: ∀j,(fI m n*2^b).testBit j=(decide (b<=j)&&(fI m n).testBit (j-b)):=by
   grind
  by_cases h24:24<=b
  ·rw [if_pos h24]
   obtain ⟨j,hj⟩:=hex
   have:=(hhigh j).1 hj
   rw [if_pos ⟨j,this.1,this.2,by omega⟩]
  ·rw [if_neg h24]
   have hlt:=NJ (fI m n*2^b)
   by_cases hg:fI m n*2^b>16777215
   ·rw [if_pos hg,if_pos]
    grind
   ·rw [if_neg hg,if_neg]
    ·congr 1
     apply h8
     grind
    ·rintro ⟨x,h1,h2,h3⟩
     have hx:(fI m n*2^b).testBit (x+b)=true:=by
      simp_all
     grind
theorem alP (hk:Fu k) {m:Nat} (hm:m<4294967296) (n b:Nat) (hn:n<9223372036854775808) (hb:b<9223372036854775808) (Y:Int×Int->OS S):
  oe k (m:Int) (n:Int) (b:Int) Y=Y (((iF m n b).1:Int),((iF m n b).2:Int)):=by
 simp only [oe,yC,bS,ap hk]
 rw [if_neg (by omega),if_neg (by omega),ut hk hm]
 have:=afv hk Y n b hn hb (dN m) [] k (by grind [ku]) (fun x hx=>(mem_bitsN.1 hx).1) (by grind [ku]) (by simp)
 simp only [eo] at this
 refine aj this ?_
 rw [G9]
 split<;>rfl
def mW (m:Nat) (i:Int):Nat:=if 0<=i/\i<24 then kN m i.toNat|||((m&&&M24)/2^(i.toNat+1)*2^i.toNat) else m&&&M24
theorem alI (hk:Fu k) {m:Nat} (hm:m<4294967296) (i:Int) (Y:Int->OS S):rQ k (m:Int) i Y=Y ((mW m i:Nat):Int):=by
 simp only [rQ,Dx hk,ap hk]
 have hand:co .and .u32 (m:Int) 16777215=((m&&&M24:Nat):Int):=nV hm (by decide:(16777215:Nat)<4294967296)
 have hlt:m&&&M24<16777216:=ko Nat.and_le_right (by decide)
 rw [hand]
 unfold mW
 by_cases h:0<=i/\i<24
 ·obtain ⟨n,rfl⟩: ∃n:Nat,i=n:=⟨i.toNat,by omega⟩
  have hn:n<24:=by omega
  rw [decide_eq_true h,if_pos h,cF,al,T4 hk n (by omega)]
  have e1:(n:Int)+1=((n+1:Nat):Int):=by simp
  rw [fY (by omega) (by omega),e1,lQ _ (by omega),lQ _ (by omega),lS _ (by omega),lS _ (by omega)]
  rw [gb,gb,Nat.min_eq_left (show n+1<=32 by omega),Nat.min_eq_left (show n<=32 by omega),Gn,Fe]
  have hb:2^min n 24-1<4294967296:=by
   have:2^min n 24<=2^24:=jL (by decide) (by omega)
   omega
  have hq:(m&&&M24)/2^(n+1)*2^n<=m&&&M24:=by
   have h1:(m&&&M24)/2^(n+1)*2^(n+1)<=m&&&M24:=Nat.div_mul_le_self _ _
   have h2:2^n<=2^(n+1):=jL (by decide) (by omega)
   exact gf (Nat.mul_le_mul_left _ h2) h1
  have ec:((((m&&&M24)/2^(n+1):Nat):Int))*((2^n:Nat):Int)=(((m&&&M24)/2^(n+1)*2^n:Nat):Int):=by simp
  rw [ec,nR _ (by omega),nV (by omega) hb]
  have hlow:kN m n<4294967296:=by grind [kN,Nat.and_le_left]
  show Y (co .or .u32 ((kN m n:Nat):Int) _)=_
  rw [yP hlow (by omega)]
 ·rw [decide_eq_false h,if_neg h];rfl
def mg (i:Int) (x:Nat):Nat:=if 0<=i/\i<(x:Int) then x-1 else x
theorem aft (hk:Fu k) (Y:Int->OS S) (i:Int):
  ∀ (r p:List Nat) (m:Nat),(p++r).length<=24->(∀x∈r,x<24)->r.length<m->(∀x∈p,x<24)->
  qi k Y i m (ints (p++r)) (p.length:Int)=Y ((eG (p++r.map (mg i)):Nat):Int):=by
 intro r
 induction r with
 |nil=>
  intro p m hl h24 hm hp
  obtain ⟨m,rfl,hm⟩:=aq hm
  simp only [qi,zm,bS,iE,ap hk]
  grind [uu]
 |cons x r ih=>
  intro p m hl h24 hm hp
  obtain ⟨m,rfl,hm⟩:=aq hm
  have hx:=h24 x (by simp)
  have hl':p.length+(r.length+1)<=24:=by grind
  have e0:ints (p++x::r)=ints p++(x:Int)::ints r:=by simp [ints]
  have el:(p.length:Int)=((ints p).length:Int):=by rw [iE]
  simp only [qi,zm,bS,ap hk]
  rw [if_pos (by grind),e0,el,wU]
  simp only [aI]
  have ew:ag .i64 (((ints p).length:Int)+1)=(((p++[x]).length:Nat):Int):=by
   grind [fY]
  have key: ∀y:Nat,y<24->qi k Y i m (ints p++(y:Int)::ints r) (((p++[x]).length:Nat):Int)=Y ((eG ((p++[y])++r.map (mg i)):Nat):Int):=by
   intro y hy
   have:=ih (p++[y]) m (by grind) (fun z hz=>h24 z (by simp [hz])) (by grind) (by
    grind)
   grind [ints]
  rw [ew]
  by_cases hi:i>=0
  ·rw [if_pos hi]
   by_cases hxi:(x:Int)>i<;>grind [fY,gb,mg]
  grind [mg]
theorem aa0 (m:Nat) (i:Int):mW m i=eG ((dN (if 0<=i/\i<24 then gI (m&&&M24) (2^i.toNat) else m&&&M24)).map (mg i)):=by
 unfold mW
 by_cases h:0<=i/\i<24
 ·rw [if_pos h,if_pos h]
  obtain ⟨n,rfl⟩: ∃n:Nat,i=n:=⟨i.toNat,by omega⟩
  have hn:n<24:=by omega
  rw [gb]
  have hmem: ∀j,j∈dN (gI (m&&&M24) (2^n))↔(j<24/\m.testBit j=true/\j≠n):=by
   grind [mem_bitsN,o0,k_]
  have hnd:((dN (gI (m&&&M24) (2^n))).map (mg n)).Nodup:=by
   grind [List.Pairwise.imp_of_mem,rC,mg]
  apply h8
  intro j
  rw [rf _ hnd,Nat.testBit_or,E8,Nat.testBit_mul_two_pow,Nat.testBit_div_two_pow,Nat.testBit_and,k_,jK]
  grind [mg]
 ·rw [if_neg h,if_neg h]
  have e:(dN (m&&&M24)).map (mg i)=dN (m&&&M24):=by
   conv=>rhs;rw [<-List.map_id (dN (m&&&M24))]
   grind [List.map_congr_left,mem_bitsN,mg]
  grind [I0]
theorem alO (hk:Fu k) {m:Nat} (hm:m<4294967296) (i:Int) (Y:Int->OS S):rT k (m:Int) i Y=Y ((mW m i:Nat):Int):=by
 simp only [rT,Jv,ap hk,yy hk hm]
 have hlt:m&&&M24<4294967296:=ko Nat.and_le_right (by decide)
 have e:(if 0<=i/\i<24 then ((gI (m&&&M24) (2^i.toNat):Nat):Int) else ((m&&&M24:Nat):Int))=(((if 0<=i/\i<24 then gI (m&&&M24) (2^i.toNat) else m&&&M24):Nat):Int):=by grind
 have hq:(if 0<=i/\i<24 then gI (m&&&M24) (2^i.toNat) else m&&&M24)<4294967296:=by
  split
  ·exact xO (n:=32) hlt
  omega
 rw [e,ut hk hq,aa0]
 generalize (if 0<=i/\i<24 then gI (m&&&M24) (2^i.toNat) else m&&&M24)=q at hq ⊢
 have:=aft hk Y i (dN q) [] k (by grind [ku]) (fun x hx=>(mem_bitsN.1 hx).1) (by grind [ku]) (by simp)
 simp_all
def aQ (n:Int):Prop:= -9223372036854775808<=n/\n<9223372036854775808
def q_ (s:Int):Bool:=decide (s<16777216)
def dF (s i:Int):Bool:=decide (0<=i/\i<24)&&s.toNat.testBit i.toNat
def ji (s i:Int):Int:=if 0<=i/\i<24 then (((s.toNat&&&M24)|||2^i.toNat:Nat):Int) else ((s.toNat&&&M24:Nat):Int)
def fX (s i:Int):Int:=if 0<=i/\i<24 then ((gI (s.toNat&&&M24) (2^i.toNat):Nat):Int) else ((s.toNat&&&M24:Nat):Int)
def ke (s:Int):List Int:=ints (dN s.toNat)
def eY (s i b:Int):Int×Int:=if i<0\/b<0 then (0,2) else (((iF s.toNat i.toNat b.toNat).1:Int),((iF s.toNat i.toNat b.toNat).2:Int))
def si (s i:Int):Int:=((mW s.toNat i:Nat):Int)
theorem SR (m:Nat):q_ (m:Int)=decide (m<16777216):=by
 grind [q_]
theorem Tj (hk:Fu k) {s:Int} (h:U32 s) (Y:Bool->OS S):rR k s Y=Y (q_ s):=by
 obtain ⟨m,hm,rfl⟩:=h.nat
 rw [alL hk hm,SR]
theorem TR (hk:Fu k) {s:Int} (h:U32 s) (Y:Bool->OS S):rU k s Y=Y (q_ s):=by
 obtain ⟨m,hm,rfl⟩:=h.nat
 rw [alQ hk hm,SR]
theorem ul (hk:Fu k) {s:Int} (h:U32 s) (i:Int) (Y:Bool->OS S):kz k s i Y=Y (dF s i):=by
 obtain ⟨m,hm,rfl⟩:=h.nat
 rw [alJ hk hm];rfl
theorem lM (hk:Fu k) {s:Int} (h:U32 s) (i:Int) (Y:Bool->OS S):gQ k s i Y=Y (dF s i):=by
 obtain ⟨m,hm,rfl⟩:=h.nat
 rw [T5 hk hm];rfl
theorem yq (hk:Fu k) {s:Int} (h:U32 s) (i:Int) (Y:Int->OS S):lZ k s i Y=Y (ji s i):=by
 obtain ⟨m,hm,rfl⟩:=h.nat
 rw [alM hk hm];rfl
theorem ale (hk:Fu k) {s:Int} (h:U32 s) (i:Int) (Y:Int->OS S):wc k s i Y=Y (ji s i):=by
 obtain ⟨m,hm,rfl⟩:=h.nat
 rw [alR hk hm];rfl
theorem yr (hk:Fu k) {s:Int} (h:U32 s) (i:Int) (Y:Int->OS S):mU k s i Y=Y (fX s i):=by
 obtain ⟨m,hm,rfl⟩:=h.nat
 rw [alN hk hm];rfl
theorem Dp (hk:Fu k) {s:Int} (h:U32 s) (i:Int) (Y:Int->OS S):kB k s i Y=Y (fX s i):=by
 obtain ⟨m,hm,rfl⟩:=h.nat
 rw [yy hk hm];rfl
theorem ak8 (hk:Fu k) {s:Int} (h:U32 s) (Y:List Int->OS S):l6 k s Y=Y (ke s):=by
 obtain ⟨m,hm,rfl⟩:=h.nat
 rw [ut hk hm];rfl
theorem Pp {s:Int} (h:U32 s):tM s=ke s:=by
 obtain ⟨m,hm,rfl⟩:=h.nat
 have: ∀i:Nat,(BitVec.ofInt 32 (m:Int)).getLsbD i=m.testBit i:=by
  grind
 simp_all [tM,ke,ints,dN]
theorem Th (hk:Fu k) {s i b:Int} (h:U32 s) (hi:aQ i) (hb:aQ b) (Y:Int×Int->OS S):oa k s i b Y=Y (eY s i b):=by
 obtain ⟨m,hm,rfl⟩:=h.nat
 by_cases h1:i<0
 ·grind [oa,bS,eY]
 by_cases h2:b<0
 ·grind [oa,bS,eY]
 obtain ⟨n,rfl⟩: ∃n:Nat,i=n:=⟨i.toNat,by omega⟩
 obtain ⟨c,rfl⟩: ∃n:Nat,b=n:=⟨b.toNat,by omega⟩
 have:=hi.2;have:=hb.2
 grind [alK,eY]
theorem TN (hk:Fu k) {s i b:Int} (h:U32 s) (hi:aQ i) (hb:aQ b) (Y:Int×Int->OS S):oe k s i b Y=Y (eY s i b):=by
 obtain ⟨m,hm,rfl⟩:=h.nat
 by_cases h1:i<0
 ·grind [oe,yC,bS,eY]
 by_cases h2:b<0
 ·grind [oe,yC,bS,eY]
 obtain ⟨n,rfl⟩: ∃n:Nat,i=n:=⟨i.toNat,by omega⟩
 obtain ⟨c,rfl⟩: ∃n:Nat,b=n:=⟨b.toNat,by omega⟩
 have:=hi.2;have:=hb.2
 grind [alP,eY]
theorem Tg (hk:Fu k) {s:Int} (h:U32 s) (i:Int) (Y:Int->OS S):rQ k s i Y=Y (si s i):=by
 obtain ⟨m,hm,rfl⟩:=h.nat
 rw [alI hk hm];rfl
theorem TK (hk:Fu k) {s:Int} (h:U32 s) (i:Int) (Y:Int->OS S):rT k s i Y=Y (si s i):=by
 obtain ⟨m,hm,rfl⟩:=h.nat
 rw [alO hk hm];rfl
theorem Fi (hk:Fu k) (Y:Int->OS S):n_ k 0 Y=Y 0:=by
 simp only [n_,ap hk];rfl
theorem Fj (hk:Fu k) (Y:Int->OS S): ∀n:Nat,n<24->n_ k ((2^n:Nat):Int) Y=Y 1:=by
 simp only [n_,ap hk]
 intro n hn
 match n,hn with
 |0,_|1,_|2,_|3,_|4,_|5,_|6,_|7,_|8,_|9,_|10,_|11,_|12,_|13,_|14,_|15,_|16,_|17,_|18,_|19,_|20,_|21,_|22,_|23,_=>rfl
 |n+24,h=>omega
theorem DJ (i:Int):ji 0 i=if 0<=i/\i<24 then ((2^i.toNat:Nat):Int) else 0:=by
 grind [ji]
theorem akt (hk:Fu k) (i:Int) (Y:Bool->OS S):Ao k i Y=Y (decide (0<=i/\i<24)):=by
 simp only [Ao,ap hk,yq hk (s:=0) ⟨by omega,by omega⟩,DJ]
 grind [Fj,Fi]
theorem aku (hk:Fu k) (i:Int) (Y:Bool->OS S):vR k i Y=Y (decide (0<=i/\i<24)):=by
 simp only [vR,ap hk,yq hk (s:=0) ⟨by omega,by omega⟩,DJ]
 grind [Fj,Fi]
theorem U32.of {n:Nat} (h:n<4294967296):U32 (n:Int):=⟨by omega,by omega⟩
theorem withS_lt {s i:Int}:0<=ji s i/\ji s i<16777216:=by
 have h1:s.toNat&&&M24<16777216:=ko Nat.and_le_right (by decide)
 unfold ji
 split
 ·next h=>
  have hp:2^i.toNat<2^24:=Nat.pow_lt_pow_right (by decide) (by omega)
  have:=Nat.or_lt_two_pow (n:=24) h1 hp
  omega
 ·omega
theorem Kw {s i:Int}:0<=fX s i/\fX s i<16777216:=by
 have h1:s.toNat&&&M24<16777216:=ko Nat.and_le_right (by decide)
 unfold fX
 split
 ·have:=xO (n:=24) (b:=2^i.toNat) h1
  omega
 ·omega
theorem aa1 (m:Nat) (i:Int):mW m i<16777216:=by
 have h1:m&&&M24<16777216:=ko Nat.and_le_right (by decide)
 unfold mW
 split
 ·rw [NJ]
  grind [E8,k_]
 omega
deriving instance DecidableEq for Cl
theorem Cl.ext' {a b:Cl} (h1:a.pos=b.pos) (h2:a.neg=b.neg):a=b:=by cases a<;>simp_all
theorem nW (a b:Cl):((a.pos==b.pos)&&((a.neg==b.neg)&&true))=decide (a=b):=by
 grind [Cl.ext']
def bR (c:Cl):Prop:=U32 c.pos/\U32 c.neg
def aw (f:LC):Prop:= ∀c∈f,bR c
def jB (c:Cl):Bool:=q_ c.pos&&q_ c.neg
def RC (c:Cl):Prop:=(0<=c.pos/\c.pos<16777216)/\(0<=c.neg/\c.neg<16777216)
theorem RC.ok {c:Cl} (h:RC c):bR c:=⟨⟨h.1.1,by have:=h.1.2;omega⟩,⟨h.2.1,by have:=h.2.2;omega⟩⟩
theorem Db {c:Cl} (h:bR c):jB c=true↔RC c:=by
 unfold jB q_ RC
 simp only [aF,decide_eq_true_eq]
 have h1:=h.1.1;have h2:=h.2.1
 omega
def ij (a b:Int):Int:=((a.toNat|||b.toNat:Nat):Int)
theorem tT {a b:Int} (ha:U32 a) (hb:U32 b):co .or .u32 a b=ij a b:=by
 obtain ⟨m,hm,rfl⟩:=ha.nat;obtain ⟨n,hn,rfl⟩:=hb.nat
 rw [yP hm hn];rfl
def g9 (a b:Cl):Cl:=⟨ij a.pos b.pos,ij a.neg b.neg⟩
def gN (a b:Cl):Bool:=decide (g9 a b=a)
def dJ (c:Cl):Bool:= !decide (c.pos.toNat&&&c.neg.toNat=0)
theorem HI {a b:Int} (ha:U32 a) (hb:U32 b):U32 (ij a b):=by
 obtain ⟨m,hm,rfl⟩:=ha.nat;obtain ⟨n,hn,rfl⟩:=hb.nat
 exact U32.of (Nat.or_lt_two_pow (n:=32) hm hn)
theorem PQ {a b:Int} (ha:0<=a/\a<16777216) (hb:0<=b/\b<16777216):0<=ij a b/\ij a b<16777216:=by
 unfold ij
 have:=Nat.or_lt_two_pow (n:=24) (x:=a.toNat) (y:=b.toNat) (by omega) (by omega)
 omega
theorem Cb {a b:Cl} (ha:bR a) (hb:bR b):bR (g9 a b):=⟨HI ha.1 hb.1,HI ha.2 hb.2⟩
theorem Ps {a b:Cl} (ha:RC a) (hb:RC b):RC (g9 a b):=⟨PQ ha.1 hb.1,PQ ha.2 hb.2⟩
theorem Tp (hk:Fu k) {c:Cl} (h:bR c) (Y:Bool->OS S):vK k c Y=Y (jB c):=by
 simp only [vK,ap hk,Tj hk h.1,Tj hk h.2,jB,eM]
 grind
theorem TI (hk:Fu k) {c:Cl} (h:bR c) (Y:Bool->OS S):wg k c Y=Y (jB c):=by
 simp only [wg,ap hk,TR hk h.1,TR hk h.2,jB,eM]
 grind
theorem IK (hk:Fu k) {a b:Cl} (ha:bR a) (hb:bR b) (Y:Cl->OS S):rH k a b Y=Y (g9 a b):=by
 simp only [rH,tT ha.1 hb.1,tT ha.2 hb.2];rfl
theorem akq (hk:Fu k) {a b:Cl} (ha:bR a) (hb:bR b) (Y:Bool->OS S):Ak k a b Y=Y (gN a b):=by
 simp only [Ak,ap hk,IK hk ha hb,nW];rfl
theorem akV (hk:Fu k) {a b:Cl} (ha:bR a) (hb:bR b) (Y:Bool->OS S):AQ k a b Y=Y (gN a b):=by
 have e:gN a b=((ij a.pos b.pos==a.pos)&&((ij a.neg b.neg==a.neg)&&true)):=(nW (g9 a b) a).symm
 simp only [AQ,tT ha.1 hb.1,tT ha.2 hb.2,eM,e]
 grind
theorem To (hk:Fu k) {c:Cl} (h:bR c) (Y:Bool->OS S):vJ k c Y=Y (dJ c):=by
 obtain ⟨p,n⟩:=c
 obtain ⟨m,hm,rfl⟩:=h.1.nat;obtain ⟨n,hn,rfl⟩:=h.2.nat
 simp only [vJ,nV hm hn,dJ,gb]
 congr 2
 grind
open Classical in
theorem afs (hk:Fu k) {c:Cl} (h:bR c) (Y:Bool->OS S): ∀ (d i m:Nat),i+d=24->d<m->
  ta k Y c m (i:Int)=Y (decide (∃j,i<=j/\j<24/\c.pos.toNat.testBit j=true/\c.neg.toNat.testBit j=true)):=by
 intro d
 induction d with
 |zero=>
  intro i m e hm
  obtain ⟨m,rfl,hm⟩:=aq hm
  simp only [ta,zr,bS]
  rw [if_neg (by omega),decide_eq_false]
  rintro ⟨j,h1,h2,_⟩;omega
 |succ d ih=>
  intro i m e hm
  obtain ⟨m,rfl,hm⟩:=aq hm
  have e2:(i:Int)+1=((i+1:Nat):Int):=by simp
  simp only [ta,zr,ap hk,lM hk h.1,lM hk h.2,eM,decide_eq_true_eq]
  rw [if_pos (by omega),fY (by omega) (by omega),e2,ih (i+1) m (by omega) (by omega)]
  have hp:dF c.pos (i:Int)=c.pos.toNat.testBit i:=by unfold dF;rw [decide_eq_true (by omega),hX];rfl
  have hn:dF c.neg (i:Int)=c.neg.toNat.testBit i:=by unfold dF;rw [decide_eq_true (by omega),hX];rfl
  rw [hp,hn]
  have step: ¬(c.pos.toNat.testBit i=true/\c.neg.toNat.testBit i=true)->((∃j,i+1<=j/\j<24/\c.pos.toNat.testBit j=true/\c.neg.toNat.testBit j=true)↔(∃j,i<=j/\j<24/\c.pos.toNat.testBit j=true/\c.neg.toNat.testBit j=true)):=by
   intro hne
   constructor
   ·rintro ⟨j,a,b⟩;exact ⟨j,by omega,b⟩
   ·rintro ⟨j,a,b⟩
    refine ⟨j, ?_,b⟩
    have:j≠i:=by rintro rfl;exact hne b.2
    omega
  by_cases h1:c.pos.toNat.testBit i=true
  ·by_cases h2:c.neg.toNat.testBit i=true
   ·rw [if_pos h1,if_pos h2,decide_eq_true]
    exact ⟨i,by omega,by omega,h1,h2⟩
   ·rw [if_pos h1,if_neg h2];simp only [step (fun h=>h2 h.2)]
  ·rw [if_neg h1];simp only [step (fun h=>h1 h.1)]
theorem TG (hk:Fu k) {c:Cl} (h:RC c) (Y:Bool->OS S):wd k c Y=Y (dJ c):=by
 simp only [wd,JA]
 have:=afs hk h.ok Y 24 0 k (by omega) (by omega)
 refine aj this ?_
 congr 1
 rw [dJ,jK]
 simp only [decide_eq_true_eq,kn,decide_eq_false_iff_not]
 constructor
 ·rintro ⟨j,_,_,h1,h2⟩ h0
  have:(c.pos.toNat&&&c.neg.toNat).testBit j=true:=by grind
  grind
 ·intro h0
  apply Classical.byContradiction
  intro hne
  apply h0
  apply h8
  intro j
  rw [Nat.zero_testBit,Nat.testBit_and]
  cases h1:c.pos.toNat.testBit j with
  |false=>rfl
  |true=>
   cases h2:c.neg.toNat.testBit j with
   |false=>rfl
   |true=>
    have hlt:c.pos.toNat<16777216:=by have:=h.1;omega
    exact absurd ⟨j,by omega,nX hlt h1,h1,h2⟩ hne
theorem amL (s:Int) (x:Nat) (hx:x<24) (j:Nat):(ji s (x:Int)).toNat.testBit j=((s.toNat.testBit j&&decide (j<24))||decide (j=x)):=by
 unfold ji
 rw [if_pos (by omega),gb,gb,Nat.testBit_or,Nat.testBit_and,k_,Nat.testBit_two_pow,jK]
 grind
theorem ag4 (hk:Fu k) (Y:Int->OS S): ∀ (r p:List Nat) (m:Nat) (a:Int),(p++r).length<=24->(∀x∈r,x<24)->r.length<m->U32 a->
  ∃v:Int,U32 v/\(∀j,v.toNat.testBit j=((a.toNat.testBit j&&(decide (r=[])||decide (j<24)))||decide (j∈r)))/\td k Y (ints (p++r)) m a (p.length:Int)=Y v:=by
 intro r
 induction r with
 |nil=>
  grind [aq,td,zw,bS,iE]
 |cons x r ih=>
  intro p m a hl h24 hm ha
  obtain ⟨m,rfl,hm⟩:=aq hm
  have hx:=h24 x (by simp)
  have hl':p.length+(r.length+1)<=24:=by grind
  have hu:U32 (ji a (x:Int)):=⟨withS_lt.1,by have:=(withS_lt (s:=a) (i:=(x:Int))).2;omega⟩
  obtain ⟨v,hv,hb,hr⟩:=ih (p++[x]) m (ji a (x:Int)) (by grind) (fun z hz=>h24 z (by simp [hz])) (by grind) hu
  refine ⟨v,hv,fun j=> ?_, ?_⟩
  ·grind [amL]
  ·have e0:ints (p++x::r)=ints p++(x:Int)::ints r:=by simp [ints]
   have el:(p.length:Int)=((ints p).length:Int):=by rw [iE]
   simp only [td,zw,bS,ap hk]
   rw [if_pos (by grind),e0,el,wU]
   simp only [aI,ale hk ha]
   have ew:ag .i64 (((ints p).length:Int)+1)=(((p++[x]).length:Nat):Int):=by
    rw [iE,fY (by omega) (by omega)];simp
   grind
theorem TV (hk:Fu k) {a b:Int} (ha:0<=a/\a<16777216) (hb:0<=b/\b<16777216) (Y:Int->OS S):wi k a b Y=Y (ij a b):=by
 have ha':U32 a:=⟨ha.1,by omega⟩
 have hb':U32 b:=⟨hb.1,by omega⟩
 simp only [wi,JD,ap hk,ak8 hk hb',ke]
 obtain ⟨v,hv,hbit,hr⟩:=ag4 hk Y (dN b.toNat) [] k a (by grind [ku]) (fun x hx=>(mem_bitsN.1 hx).1) (by grind [ku]) ha'
 refine aj hr ?_
 congr 1
 have:v.toNat=a.toNat|||b.toNat:=by
  apply h8
  intro j
  rw [hbit,Nat.testBit_or,jK]
  simp only [Bool.or_eq_true,aF,decide_eq_true_eq,mem_bitsN]
  constructor
  ·grind
  ·rintro (h|h)
   ·exact .inl ⟨h,.inr (nX (m:=a.toNat) (by omega) h)⟩
   ·exact .inr ⟨nX (m:=b.toNat) (by omega) h,h⟩
 have hv0:=hv.1
 unfold ij
 omega
theorem TH (hk:Fu k) {a b:Cl} (ha:RC a) (hb:RC b) (Y:Cl->OS S):we k a b Y=Y (g9 a b):=by
 simp only [we,ap hk,TV hk ha.1 hb.1,TV hk ha.2 hb.2];rfl
def fV (c:Cl) (i b:Int):Cl×Int:=
 if jB c then
  if (eY c.pos i b).2=0 then if (eY c.neg i b).2=0 then (⟨(eY c.pos i b).1,(eY c.neg i b).1⟩,0) else (⟨0,0⟩,(eY c.neg i b).2)
  else (⟨0,0⟩,(eY c.pos i b).2)
 else (⟨0,0⟩,2)
theorem akr (hk:Fu k) {c:Cl} {i b:Int} (h:bR c) (hi:aQ i) (hb:aQ b) (Y:Cl×Int->OS S):An k c i b Y=Y (fV c i b):=by
 simp only [An,ap hk,Tp hk h,Th hk h.1 hi hb,Th hk h.2 hi hb,eM,fV,kn,beq_eq_false_iff_ne]
 grind
theorem akW (hk:Fu k) {c:Cl} {i b:Int} (h:bR c) (hi:aQ i) (hb:aQ b) (Y:Cl×Int->OS S):AT k c i b Y=Y (fV c i b):=by
 simp only [AT,ap hk,TI hk h,TN hk h.1 hi hb,TN hk h.2 hi hb,eM,fV,kn,beq_eq_false_iff_ne]
 grind
def kO (a b:Cl):Prop:=a.pos<b.pos\/(a.pos=b.pos/\a.neg<b.neg)
def tK (a b:Cl):Bool:=decide (a.pos<b.pos)||(a.pos==b.pos&&decide (a.neg<b.neg))
theorem ahd {a b:Cl}:tK a b=true↔kO a b:=by unfold tK kO;simp
theorem NL {a b c:Cl} (h:kO a b) (h':kO b c):kO a c:=by grind [kO]
theorem NK {a:Cl} (h:kO a a):False:=by grind [kO]
theorem ahC (a b:Cl):kO a b\/a=b\/kO b a:=by
 grind [Cl.ext',kO]
abbrev nT (l:LC):Prop:=l.Pairwise kO
theorem Dw: ∀ {a b:LC},nT a->nT b->(∀c,c∈a↔c∈b)->a=b:=by
 intro a
 induction a with
 |nil=>
  intro b _ _ h
  cases b with
  |nil=>rfl
  |cons y b=>exact absurd ((h y).2 (by simp)) (by simp)
 |cons x a ih=>
  intro b ha hb h
  cases b with
  |nil=>grind
  |cons y b=>
   have ha':=List.pairwise_cons.1 ha;have hb':=List.pairwise_cons.1 hb
   have hxy:x=y:=by
    rcases d7.1 ((h x).1 (by simp)) with h1|h1
    ·exact h1
    ·rcases d7.1 ((h y).2 (by simp)) with h2|h2<;>grind [NL,NK]
   grind [NK]
def jv (x:Cl):LC->LC
 |[]=>[x]
 |y::r=>if tK y x then y::jv x r else if y=x then y::r else x::y::r
theorem Pu {x c:Cl}: ∀ {l:LC},c∈jv x l↔c=x\/c∈l:=by
 intro l
 induction l<;>grind [jv]
theorem aes {x:Cl}: ∀ {l:LC},nT l->nT (jv x l):=by
 intro l
 induction l<;>grind [jv,List.pairwise_cons,Pu,ahd,ahC,NL]
theorem M0 {x:Cl}: ∀ {l:LC},(jv x l).length<=l.length+1:=by
 intro l
 induction l<;>grind [jv]
def d8 (l:LC) (c:Cl):Bool:=l.all fun d=>decide (d=c)|| !gN c d
def m7 (o l:LC):LC:=l.foldl (fun o c=>jv c o) o
def fW (l:LC):LC:=m7 [] (l.filter (d8 l))
theorem ahL {c:Cl}: ∀ {l o:LC},c∈m7 o l↔c∈l\/c∈o:=by
 intro l
 induction l with
 |nil=>grind [m7]
 |cons x l ih=>
  intro o
  show c∈m7 (jv x o) l↔_
  grind [Pu]
theorem aer: ∀ {l o:LC},nT o->nT (m7 o l):=by
 intro l
 induction l with
 |nil=>intro o h;exact h
 |cons x l ih=>intro o h;exact ih (aes h)
theorem aeq: ∀ {l o:LC},(m7 o l).length<=o.length+l.length:=by
 intro l
 induction l<;>grind [m7,M0]
theorem tO (l:LC):nT (fW l):=aer List.Pairwise.nil
theorem mem_mins {l:LC} {c:Cl}:c∈fW l↔c∈l/\d8 l c=true:=by
 grind [fW,ahL]
theorem ahQ (l:LC):(fW l).length<=l.length:=by
 grind [aeq,fW]
theorem PB {l l':LC} (h: ∀c,c∈l↔c∈l') (c:Cl):d8 l c=d8 l' c:=by
 grind [d8]
theorem ahP {l l':LC} (h: ∀c,c∈l↔c∈l'):fW l=fW l':=
 Dw (tO l) (tO l') fun c=>by grind [mem_mins,PB]
def cQ (l:LC):LC×Int:=if l.all jB then if (fW l).length>64 then ([],3) else (fW l,0) else ([],2)
theorem aha {l l':LC} (h: ∀c,c∈l↔c∈l'):cQ l=cQ l':=by
 grind [cQ,ahP]
theorem akc (hk:Fu k) (a b:Cl) (Y:Bool->OS S):AR k a b Y=Y (tK a b):=by
 grind [AR,eM,tK]
theorem agf (hk:Fu k) (Y:Bool->OS S) {c:Cl} (hc:bR c) {l:LC} (hl:aw l) (hlen:l.length<4294967296):
  ∀ (r p:LC) (m:Nat),l=p++r->r.length<m->tc k Y c l m (p.length:Int)=Y (d8 r c):=by
 intro r
 induction r with
 |nil=>
  intro p m h hm
  obtain ⟨m,rfl,hm'⟩:=aq hm
  simp only [tc,zu,d2 h,al];rfl
 |cons x r ih=>
  intro p m h hm
  obtain ⟨m,rfl,hm'⟩:=aq hm
  obtain ⟨e1,e2,e3,e4⟩:=aK h (by omega)
  have hx:bR x:=hl x (by grind)
  grind [tc,zu,nW,eM,d8,ap,akV]
theorem akN (hk:Fu k) {c:Cl} (hc:bR c) {l:LC} (hl:aw l) (hlen:l.length<4294967296) (Y:Bool->OS S):AU k l c Y=Y (d8 l c):=by
 simp only [AU,JC]
 exact agf hk Y hc hl hlen l [] k rfl (by omega)
theorem Ah {S:Type} {p:Prop} [Decidable p] (h:p) (f:Unit->OS S):af (dT p) f=f ():=lS p h f
theorem agl (hk:Fu k) (Y:LC×Int->OS S) (rec1:LC->Int->OS S) {l:LC} {x:Cl} {i:Int} (hx:ak l i=some x) {out:LC} (hout:out.length<4294967296):
  ∀ (r p:LC) (m:Nat),out=p++r->r.length<m->qk k Y rec1 l out i m (p.length:Int)=rec1 (p++jv x r) (ag .i64 (i+1)):=by
 intro r
 induction r with
 |nil=>
  intro p m h hm
  obtain ⟨m,rfl,hm'⟩:=aq hm
  have hp:out=p:=by grind
  subst hp
  have e:(((out.length:Int))==((out.length:Int)))=true:=by simp
  simp only [qk,zt,d2 h,al,e,ao]
  grind [Ah,bA,jv]
 |cons y r ih=>
  intro p m h hm
  obtain ⟨m,rfl,hm'⟩:=aq hm
  obtain ⟨e1,e2,e3,e4⟩:=aK h (by omega)
  have hpl:p.length<out.length:=by grind
  have e:(((p.length:Int))==((out.length:Int)))=false:=by
   grind
  have:=ih (p++[y]) m e4 hm'
  simp only [qk,zt,e1,ao,e2,hx,aI,ap hk,akc hk,e,al,nW]
  rw [e3,this]
  cases hb:tK y x with
  |true=>grind [ao,jv]
  |false=>
   rw [al,jv,if_neg (by grind)]
   by_cases hyx:y=x<;>grind [al,ao,Ah,bA]
theorem agk (hk:Fu k) (Y:LC×Int->OS S) {l:LC} (hl:aw l) (hlen:l.length<2147483648):
  ∀ (r p:LC) (m:Nat) (o:LC),l=p++r->r.length<m->o.length<=p.length->
  m_ k Y l m o (p.length:Int)=Y (if (m7 o (r.filter (d8 l))).length>64 then ([],3) else (m7 o (r.filter (d8 l)),0)):=by
 intro r
 induction r with
 |nil=>
  intro p m o h hm ho
  obtain ⟨m,rfl,hm'⟩:=aq hm
  simp only [m_,u3,d2 h,al,bS]
  show _=Y (if o.length>64 then _ else (o,0))
  grind
 |cons x r ih=>
  intro p m o h hm ho
  obtain ⟨m,rfl,hm'⟩:=aq hm
  obtain ⟨e1,e2,e3,e4⟩:=aK h (by omega)
  have hx:bR x:=hl x (by grind)
  have hk':4294967296<=k:=hk
  have hpl:p.length<l.length:=by grind
  simp only [m_,u3,e1,ao,e2,aI,ap hk,akN hk hx hl (by omega)]
  have hplace:=agl hk Y (m_ k Y l m) e2 (out:=o) (by omega) o [] k rfl (by omega)
  simp only [iV,eo] at hplace
  rw [show (0:Int)=((0:Nat):Int) from rfl,hplace,e3]
  cases hn:d8 l x with
  |true=>
   rw [cF,al,List.filter_cons_of_pos hn]
   exact ih (p++[x]) m (jv x o) e4 hm' (by grind [M0])
  |false=>
   rw [dQ,ao,List.filter_cons_of_neg (by grind)]
   grind
theorem agG (hk:Fu k) (Y:LC×Int->OS S) {l:LC} (hl:aw l) (hlen:l.length<2147483648):
  ∀ (r p:LC) (m:Nat),l=p++r->r.length<m->
  tb k Y l m (p.length:Int)=Y (if r.all jB then if (fW l).length>64 then ([],3) else (fW l,0) else ([],2)):=by
 intro r
 induction r with
 |nil=>
  intro p m h hm
  obtain ⟨m,rfl,hm'⟩:=aq hm
  simp only [tb,uZ,d2 h,al,List.all_nil,if_true]
  have hk':4294967296<=k:=hk
  exact agk hk Y hl hlen l [] k [] rfl (by omega) (by simp)
 |cons x r ih=>
  intro p m h hm
  obtain ⟨m,rfl,hm'⟩:=aq hm
  obtain ⟨e1,e2,e3,e4⟩:=aK h (by omega)
  have hx:bR x:=hl x (by grind)
  grind [tb,uZ,ao,ap,TI,al]
theorem rd (hk:Fu k) {l:LC} (hl:aw l) (hlen:l.length<2147483648) (Y:LC×Int->OS S):l9 k l Y=Y (cQ l):=by
 simp only [l9,JB]
 exact agG hk Y hl hlen l [] k rfl (by omega)
theorem akb (hk:Fu k) {d c:Cl} (hd:bR d) (hc:bR c) (Y:Bool->OS S):Am k d c Y=Y (!(decide (d=c)|| !gN c d)):=by
 grind [Am,nW,eM,ap,akq,gN]
theorem af5 (hk:Fu k) (Y:Int->OS S) {c:Cl} (hc:bR c) {l:LC} (hl:aw l) (hlen:l.length<2147483648):
  ∀ (r p:LC) (m:Nat),l=p++r->r.length<m-> ∃v:Int,decide (v>=0)= !d8 r c/\tA k Y c l m (p.length:Int)=Y v:=by
 intro r
 induction r with
 |nil=>
  intro p m h hm
  obtain ⟨m,rfl,hm'⟩:=aq hm
  exact ⟨-1,rfl,by grind [tA,zY,al]⟩
 |cons x r ih=>
  intro p m h hm
  obtain ⟨m,rfl,hm'⟩:=aq hm
  obtain ⟨e1,e2,e3,e4⟩:=aK h (by omega)
  have hx:bR x:=hl x (by grind)
  obtain ⟨v,hv,hr⟩:=ih (p++[x]) m e4 hm'
  have e0:d8 (x::r) c=((decide (x=c)|| !gN c x)&&d8 r c):=by rfl
  grind [tA,zY,ao,ap,akb,decide,gN,al]
theorem akO (hk:Fu k) {c:Cl} (hc:bR c) {l:LC} (hl:aw l) (hlen:l.length<2147483648) (Y:Bool->OS S):Al k c l Y=Y (!d8 l c):=by
 obtain ⟨v,hv,hr⟩:=af5 hk (fun r1:Int=>Y (decide (r1>=0))) hc hl hlen l [] k rfl (by omega)
 grind [Al,FQ,FS,Kc,ap]
theorem af8 (hk:Fu k) (Y:LC×Int->OS S) {l:LC} (hl:aw l) (hlen:l.length<2147483648):
  ∀ (r p:LC) (m:Nat) (q:LC),l=p++r->r.length<m->q.length<=p.length->
  qb k Y l m (p.length:Int) q=Y (if (q++r.filter (d8 l)).length>64 then ([],3) else (sortCl (q++r.filter (d8 l)),0)):=by
 intro r
 induction r with
 |nil=>
  grind [aq,qb,yR,bS]
 |cons x r ih=>
  intro p m q h hm hq
  obtain ⟨m,rfl,hm'⟩:=aq hm
  obtain ⟨e1,e2,e3,e4⟩:=aK h (by omega)
  have hx:bR x:=hl x (by grind)
  have hpl:p.length<l.length:=by grind
  simp only [qb,yR,e1,ao,e2,aI,ap hk,akO hk hx hl hlen,Bool.not_not]
  rw [e3]
  cases hn:d8 l x with
  |true=>
   rw [ao,bA (by grind),List.filter_cons_of_pos hn,ih (p++[x]) m (q++[x]) e4 hm' (by grind)]
   simp
  |false=>
   rw [al,List.filter_cons_of_neg (by grind)]
   grind
theorem BE (a b:Cl):i_ VV ET.C a b=decide (a=b):=by
 have e:i_ VV ET.C a b=((a.pos==b.pos)&&((a.neg==b.neg)&&true)):=by
  rfl
 rw [e,nW]
theorem ahO (l:List (Cl×Bool)) (x y:Cl):gU VV ET.C (jy VV ET.C l x true) y=if x=y then some true else gU VV ET.C l y:=by
 induction l with
 |nil=>
  show (bif i_ VV ET.C x y then some true else .none)=_
  simp_all [BE,gU]
 |cons a r ih=>
  obtain ⟨z,b⟩:=a
  show gU VV ET.C (bif i_ VV ET.C z x then (z,true)::r else (z,b)::jy VV ET.C r x true) y=_
  rw [BE]
  by_cases h:z=x
  ·subst h
   rw [decide_eq_true rfl,cond_true]
   show (bif i_ VV ET.C z y then some true else gU VV ET.C r y)=if z=y then some true else (bif i_ VV ET.C z y then some b else gU VV ET.C r y)
   grind [BE]
  ·rw [decide_eq_false h,cond_false]
   show (bif i_ VV ET.C z y then some b else gU VV ET.C (jy VV ET.C r x true) y)=if x=y then some true else (bif i_ VV ET.C z y then some b else gU VV ET.C r y)
   grind [BE]
theorem alC {l o:LC} (hn:o.Nodup) (h: ∀c,c∈o↔c∈l):sortCl (o.filter (d8 o))=fW l/\(o.filter (d8 o)).length=(fW l).length:=by
 have hp:(sortCl (o.filter (d8 o))).Perm (o.filter (d8 o)):=List.mergeSort_perm _ _
 have hs:(sortCl (o.filter (d8 o))).Pairwise (fun a b=>nZ a b=true):=
  List.pairwise_mergeSort (le:=nZ) (fun a b c h1 h2=>by
   grind [nZ]) (fun a b=>by
   grind [nZ]) _
 have hnd:(sortCl (o.filter (d8 o))).Nodup:=hp.nodup_iff.2 (hn.filter _)
 have hsorted:nT (sortCl (o.filter (d8 o))):=by
  refine (hs.and hnd).imp fun {a b} h=> ?_
  have h1:=h.1
  unfold nZ at h1
  simp only [Bool.or_eq_true,aF,decide_eq_true_eq,beq_iff_eq] at h1
  rcases h1 with h1|h1
  ·exact .inl h1
  ·refine .inr ⟨h1.1, ?_⟩
   grind [Cl.ext']
 have he:sortCl (o.filter (d8 o))=fW l:=Dw hsorted (tO l) fun c=>by
  grind [mem_mins,PB]
 exact ⟨he,by rw [<-he,hp.length_eq]⟩
theorem ag1 (hk:Fu k) (Y:LC×Int->OS S) {l:LC} (hl:aw l) (hlen:l.length<2147483648):
  ∀ (r p:LC) (m:Nat) (q:List (Cl×Bool)) (o:LC),l=p++r->r.length<m->o.length<=p.length->o.Nodup->(∀c:Cl,(gU VV ET.C q c).getD false=decide (c∈o))->(∀c,c∈o↔c∈p)->
  sJ k Y l m q o (p.length:Int)=Y (if r.all jB then if (fW l).length>64 then ([],3) else (fW l,0) else ([],2)):=by
 intro r
 induction r with
 |nil=>
  intro p m q o h hm ho hnd hq hmem
  obtain ⟨m,rfl,hm'⟩:=aq hm
  have hp:l=p:=by grind
  subst hp
  have hol:aw o:=fun c hc=>hl c ((hmem c).1 hc)
  have hk':4294967296<=k:=hk
  simp only [sJ,uT,d2 h,al,List.all_nil,if_true]
  have:=af8 hk Y hol (by omega) o [] k [] rfl (by omega) (by simp)
  grind [alC]
 |cons x r ih=>
  intro p m q o h hm ho hnd hq hmem
  obtain ⟨m,rfl,hm'⟩:=aq hm
  obtain ⟨e1,e2,e3,e4⟩:=aK h (by omega)
  have hx:bR x:=hl x (by grind)
  have hpl:p.length<l.length:=by grind
  simp only [sJ,uT,e1,ao,e2,aI,ap hk,Tp hk hx]
  rw [hq,e3]
  by_cases hr:jB x=true
  ·have:(x::r).all jB=r.all jB:=by grind
   rw [hr,cF,al,this]
   by_cases hxo:x∈o
   ·grind [al]
   ·rw [decide_eq_false hxo,dQ,ao,bA (by grind)]
    refine ih (p++[x]) m _ (o++[x]) e4 hm' (by grind) (List.nodup_append.2 ⟨hnd,by simp,fun a ha b hb=>by grind⟩) (fun c=> ?_) fun c=> ?_
    all_goals grind [ahO]
  grind [ao]
theorem nM (hk:Fu k) {l:LC} (hl:aw l) (hlen:l.length<2147483648) (Y:LC×Int->OS S):jX k l Y=Y (cQ l):=by
 simp only [jX,I9]
 exact ag1 hk Y hl hlen l [] k [] [] rfl (by omega) (by simp) List.nodup_nil (fun c=>by rfl) (fun c=>Iff.rfl)
theorem afu (hk:Fu k) (Y:Bool->OS S) {a b:LC} (hlen:a.length<4294967296):
  ∀ (r s p q:LC) (m:Nat),a=p++r->b=q++s->p.length=q.length->r.length=s.length->r.length<m->tz k Y a b m (p.length:Int)=Y (decide (r=s)):=by
 intro r
 induction r with
 |nil=>
  grind [aq,tz,zX,al]
 |cons x r ih=>
  intro s p q m h h' hpq hrs hm
  obtain ⟨m,rfl,hm'⟩:=aq hm
  cases s with
  |nil=>cases hrs
  |cons y s=>
   obtain ⟨e1,e2,e3,e4⟩:=aK h (by omega)
   have e2':ak b (p.length:Int)=some y:=by grind [wU]
   simp only [tz,zX,e1,ao,e2,e2',aI,nW,e3]
   rw [ih s (p++[x]) (q++[y]) m e4 (by grind) (by simp_all) (by grind) hm']
   by_cases hxy:x=y<;>simp_all [al,ao]
theorem aj6 (hk:Fu k) {a b:LC} (hlen:a.length<4294967296) (Y:Bool->OS S):Ba k a b Y=Y (decide (a=b)):=by
 simp only [Ba,Kb]
 by_cases h:a.length=b.length
 ·have e:((a.length:Int)==(b.length:Int))=true:=by simp [h]
  rw [e,cF,al]
  exact afu hk Y hlen a b [] [] k rfl rfl rfl h (by omega)
 ·have e:((a.length:Int)==(b.length:Int))=false:=by grind
  rw [e,dQ,ao,decide_eq_false]
  grind
theorem afx (hk:Fu k) (Y:Bool->OS S) {a b:LC} (hlen:a.length<4294967296):
  ∀ (r s p q:LC) (m:Nat),a=p++r->b=q++s->p.length=q.length->r.length=s.length->r.length<m->na k Y a b m (p.length:Int)=Y (decide (r=s)):=by
 intro r
 induction r with
 |nil=>
  grind [aq,na,rx,al]
 |cons x r ih=>
  intro s p q m h h' hpq hrs hm
  obtain ⟨m,rfl,hm'⟩:=aq hm
  cases s with
  |nil=>cases hrs
  |cons y s=>
   obtain ⟨e1,e2,e3,e4⟩:=aK h (by omega)
   have e2':ak b (p.length:Int)=some y:=by grind [wU]
   simp only [na,rx,e1,ao,e2,e2',aI,nW,e3]
   rw [ih s (p++[x]) (q++[y]) m e4 (by simp_all) (by simp_all) (by grind) hm']
   by_cases hxy:x=y<;>simp_all [al,ao]
theorem akf (hk:Fu k) {a b:LC} (hlen:a.length<4294967296) (Y:Bool->OS S):og k a b Y=Y (decide (a=b)):=by
 simp only [og,DA]
 by_cases h:a.length=b.length
 ·have e:((a.length:Int)==(b.length:Int))=true:=by simp [h]
  rw [e,cF,al]
  exact afx hk Y hlen a b [] [] k rfl rfl rfl h (by omega)
 ·have e:((a.length:Int)==(b.length:Int))=false:=by grind
  rw [e,dQ,ao,decide_eq_false]
  grind
theorem NC (l:LC):(cQ l).1.length<=64:=by
 grind [cQ]
def dj (f:LC):Bool:=decide (cQ f=(f,0))
theorem um (hk:Fu k) {f:LC} (hf:aw f) (hlen:f.length<2147483648) (Y:Bool->OS S):lb k f Y=Y (dj f):=by
 have:=NC f
 simp only [lb,ap hk,nM hk hf hlen,aj6 hk (show (cQ f).1.length<4294967296 by omega),eM,dj,beq_iff_eq]
 by_cases h:(cQ f).2=0
 all_goals simp_all [Prod.ext_iff]
theorem kQ (hk:Fu k) {f:LC} (hf:aw f) (hlen:f.length<2147483648) (Y:Bool->OS S):ic k f Y=Y (dj f):=by
 have:=NC f
 simp only [ic,ap hk,rd hk hf hlen,akf hk (show (cQ f).1.length<4294967296 by omega),eM,dj,beq_iff_eq]
 by_cases h:(cQ f).2=0
 all_goals simp_all [Prod.ext_iff]
def RF (f:LC):Prop:=cQ f=(f,0)/\aw f
theorem jC {f:LC} (h:aw f):dj f=true↔RF f:=by grind [dj,RF]
theorem RF.right {f:LC} (h:RF f):dj f=true:=by unfold dj;simp [h.1]
theorem B9 {l o:LC} (h:cQ l=(o,0)):o=fW l/\l.all jB=true/\o.length<=64:=by
 grind [cQ]
theorem RF.len {f:LC} (h:RF f):f.length<=64:=(B9 h.1).2.2
theorem RF.rc {f:LC} (h:RF f) {c:Cl} (hc:c∈f):RC c:=(Db (h.2 c hc)).1 (dI.1 (B9 h.1).2.1 c hc)
theorem ahR (l:LC):fW (fW l)=fW l:=Dw (tO _) (tO _) fun c=>by
 grind [mem_mins,d8]
theorem tI {l:LC} (hl:aw l) (h:(cQ l).2=0):RF (cQ l).1:=by
 have h':cQ l=((cQ l).1,0):=Prod.ext rfl h
 obtain ⟨h1,h2,h3⟩:=B9 h'
 have hok:aw (cQ l).1:=fun c hc=>hl c ((mem_mins.1 (h1▸hc)).1)
 refine ⟨?_,hok⟩
 grind [cQ,mem_mins,ahR]
theorem ahb {l:LC} (h:(cQ l).2≠0):(cQ l).1=[]:=by
 grind [cQ]
theorem uf:RF []:=⟨rfl,fun c hc=>by cases hc⟩
theorem lL {c:Cl} (h:RC c):RF [c]:=by
 have hok:aw [c]:=fun d hd=>by simp at hd;subst hd;exact h.ok
 refine ⟨?_,hok⟩
 have hm:fW [c]=[c]:=Dw (tO _) (by simp) fun d=>by
  grind [mem_mins,d8]
 unfold cQ
 rw [hm,if_pos (by simp [(Db h.ok).2 h]),if_neg (by simp)]
theorem qY:RC ⟨0,0⟩:=⟨⟨by decide,by decide⟩,by decide,by decide⟩
theorem jc {f g:LC} (hf:aw f) (hg:aw g):aw (f++g):=fun c hc=>by
 rcases dk.1 hc with h|h
 ·exact hf c h
 ·exact hg c h
theorem agH (hk:Fu k) (Y:Int->OS S) {l:List (LC)} (hl: ∀f∈l,aw f/\f.length<2147483648) (hlen:l.length<4294967296):
  ∀ (r p:List (LC)) (m:Nat),l=p++r->r.length<m->sV k Y l m (p.length:Int)=Y (if r.all dj then 0 else 2):=by
 intro r
 induction r with
 |nil=>
  grind [aq,sV,ze,al]
 |cons x r ih=>
  intro p m h hm
  obtain ⟨m,rfl,hm'⟩:=aq hm
  obtain ⟨e1,e2,e3,e4⟩:=aK h (by omega)
  have hx:=hl x (by grind)
  grind [sV,ze,ao,ap,um,al]
theorem IN (hk:Fu k) {l:List (LC)} (hl: ∀f∈l,aw f/\f.length<2147483648) (hlen:l.length<4294967296) (Y:Int->OS S):rO k l Y=Y (if l.all dj then 0 else 2):=by
 simp only [rO,Jq]
 exact agH hk Y hl hlen l [] k rfl (by omega)
def eO (f g:LC):LC×Int:=cQ (f++g)
def meets (f g:LC):LC:=f.flatMap fun a=>g.map (g9 a)
def fC (f g:LC):LC×Int:=cQ (meets f g)
theorem Pt {f g:LC} (hf:aw f) (hg:aw g):aw (meets f g):=fun c hc=>by
 obtain ⟨a,ha,hc⟩:=List.mem_flatMap.1 hc
 obtain ⟨b,hb,rfl⟩:=dA.1 hc
 exact Cb (hf a ha) (hg b hb)
theorem nx {f g:LC} (hf:aw f) (hg:aw g) (h:(fC f g).2=0):RF (fC f g).1:=tI (Pt hf hg) h
theorem M3 {f g:LC} (hf:aw f) (hg:aw g) (h:(eO f g).2=0):RF (eO f g).1:=tI (jc hf hg) h
theorem Dh (hk:Fu k) {f g:LC} (hf:aw f) (hg:aw g) (h1:f.length<1073741824) (h2:g.length<1073741824) (Y:LC×Int->OS S):pR k f g Y=Y (eO f g):=by
 simp only [pR,ap hk,eo]
 rw [bA (by grind),bA (by omega),nM hk (jc hf hg) (by grind)]
 rfl
theorem agd (hk:Fu k) (Y:LC×Int->OS S) (rec0:Int->LC->OS S) {x:Cl} (hx:bR x) {g f:LC} {v:Int} (hg:aw g) (hlen:g.length<65536):
  ∀ (r p:LC) (m:Nat) (o:LC),g=p++r->r.length<m->o.length+r.length<1099511627776->qc k Y rec0 x g f v m (p.length:Int) o=rec0 (ag .i64 (v+1)) (o++r.map (g9 x)):=by
 intro r
 induction r with
 |nil=>
  intro p m o h hm ho
  obtain ⟨m,rfl,hm'⟩:=aq hm
  grind [qc,zc,al]
 |cons y r ih=>
  intro p m o h hm ho
  obtain ⟨m,rfl,hm'⟩:=aq hm
  obtain ⟨e1,e2,e3,e4⟩:=aK h (by omega)
  have hy:bR y:=hg y (by grind)
  simp only [dD] at ho
  simp only [qc,zc,e1,ao,e2,aI,ap hk,IK hk hx hy,e3]
  grind [bA]
theorem agc (hk:Fu k) (Y:LC×Int->OS S) {g f:LC} (hf:aw f) (hg:aw g) (hlf:f.length<32768) (hlg:g.length<32768):
  ∀ (r p:LC) (m:Nat) (o:LC),f=p++r->r.length<m->aw o->o.length+r.length*g.length<1073741825->oO k Y g f m (p.length:Int) o=Y (cQ (o++meets r g)):=by
 intro r
 induction r with
 |nil=>
  grind [aq,oO,uV,al,ap,nM,meets]
 |cons x r ih=>
  intro p m o h hm hok ho
  obtain ⟨m,rfl,hm'⟩:=aq hm
  obtain ⟨e1,e2,e3,e4⟩:=aK h (by omega)
  have hx:bR x:=hf x (by grind)
  have hmul:(x::r).length*g.length=r.length*g.length+g.length:=by grind
  rw [hmul] at ho
  have hk':4294967296<=k:=hk
  simp only [oO,uV,e1,ao,e2,aI]
  have:=agd hk Y (oO k Y g f m) (f:=f) (v:=(p.length:Int)) hx hg (by omega) g [] k o rfl (by omega) (by omega)
  simp only [iV] at this
  rw [show (0:Int)=((0:Nat):Int) from rfl,this,e3,ih (p++[x]) m _ e4 hm' (jc hok fun c hc=>by
   obtain ⟨b,hb,rfl⟩:=dA.1 hc
   exact Cb hx (hg b hb)) (by grind)]
  simp [meets]
theorem yv (hk:Fu k) {f g:LC} (hf:aw f) (hg:aw g) (h1:f.length<32768) (h2:g.length<32768) (Y:LC×Int->OS S):mT k f g Y=Y (fC f g):=by
 simp only [mT,Jo]
 have hb:f.length*g.length<1073741824:=ko (Nat.mul_le_mul (Nat.le_of_lt_succ h1) (Nat.le_of_lt_succ h2)) (by decide)
 have:=agc hk Y hf hg h1 h2 f [] k [] rfl (by omega) (fun c hc=>by cases hc) (by grind)
 grind [fC]
theorem agQ (hk:Fu k) (Y:LC×Int->OS S) (rec0:LC->Int->OS S) {x:Cl} (hx:RC x) {g f:LC} {v:Int} (hfx:ak f v=some x) (hg: ∀c∈g,RC c) (hlen:g.length<65536):
  ∀ (r p:LC) (m:Nat) (o:LC),g=p++r->r.length<m->o.length+r.length<1099511627776->qm k Y rec0 f g v m o (p.length:Int)=rec0 (o++r.map (g9 x)) (ag .i64 (v+1)):=by
 intro r
 induction r with
 |nil=>
  intro p m o h hm ho
  obtain ⟨m,rfl,hm'⟩:=aq hm
  grind [qm,zz,al]
 |cons y r ih=>
  intro p m o h hm ho
  obtain ⟨m,rfl,hm'⟩:=aq hm
  obtain ⟨e1,e2,e3,e4⟩:=aK h (by omega)
  have hy:RC y:=hg y (by grind)
  simp only [dD] at ho
  simp only [qm,zz,e1,ao,e2,hfx,aI,ap hk,TH hk hx hy,e3]
  grind [bA]
theorem agP (hk:Fu k) (Y:LC×Int->OS S) {g f:LC} (hf: ∀c∈f,RC c) (hg: ∀c∈g,RC c) (hlf:f.length<32768) (hlg:g.length<32768):
  ∀ (r p:LC) (m:Nat) (o:LC),f=p++r->r.length<m->aw o->o.length+r.length*g.length<1073741825->oR k Y f g m o (p.length:Int)=Y (cQ (o++meets r g)):=by
 intro r
 induction r with
 |nil=>
  grind [aq,oR,u5,al,ap,rd,meets]
 |cons x r ih=>
  intro p m o h hm hok ho
  obtain ⟨m,rfl,hm'⟩:=aq hm
  obtain ⟨e1,e2,e3,e4⟩:=aK h (by omega)
  have hx:RC x:=hf x (by grind)
  have hmul:(x::r).length*g.length=r.length*g.length+g.length:=by grind
  rw [hmul] at ho
  have hk':4294967296<=k:=hk
  simp only [oR,u5,e1,ao]
  have:=agQ hk Y (oR k Y f g m) hx e2 hg (by omega) g [] k o rfl (by omega) (by omega)
  simp only [iV] at this
  rw [show (0:Int)=((0:Nat):Int) from rfl,this,e3,ih (p++[x]) m _ e4 hm' (jc hok fun c hc=>by
   obtain ⟨b,hb,rfl⟩:=dA.1 hc
   exact (Ps hx (hg b hb)).ok) (by grind)]
  simp [meets]
theorem RF.lt {f:LC} (h:RF f):f.length<2147483648:=by have:=h.len;omega
theorem Dj (hk:Fu k) {f g:LC} (hf:RF f) (hg:RF g) (Y:LC×Int->OS S):mV k f g Y=Y (fC f g):=by
 have l1:=hf.len;have l2:=hg.len
 simp only [mV,JG,ap hk,kQ hk hf.2 hf.lt,kQ hk hg.2 hg.lt,hf.right,hg.right,cF,al]
 have hb:f.length*g.length<=64*64:=Nat.mul_le_mul l1 l2
 have:=agP hk Y (fun c hc=>hf.rc hc) (fun c hc=>hg.rc hc) (by omega) (by omega) f [] k [] rfl (by omega) (fun c hc=>by cases hc) (by grind)
 grind [fC]
theorem akX (hk:Fu k) {f g:LC} (hf:RF f) (hg:RF g) (Y:LC×Int->OS S):AV k f g Y=Y (eO f g):=by
 have l1:=hf.len;have l2:=hg.len
 simp only [AV,ap hk,kQ hk hf.2 hf.lt,kQ hk hg.2 hg.lt,hf.right,hg.right,cF,al,eo]
 rw [bA (by grind),bA (by omega),rd hk (jc hf.2 hg.2) (by grind)]
 rfl
theorem u0:U32 0:=⟨by decide,by decide⟩
def nl (i:Int):Cl:=⟨0,ji 0 i⟩
def pl (i:Int):Cl:=⟨ji 0 i,0⟩
theorem HC (i:Int):RC (nl i):=⟨⟨by show (0:Int)<=0;decide,by show (0:Int)<16777216;decide⟩,withS_lt⟩
theorem HM (i:Int):RC (pl i):=⟨withS_lt,⟨by show (0:Int)<=0;decide,by show (0:Int)<16777216;decide⟩⟩
def tR (c:Cl):LC:=(ke c.pos).map nl++(ke c.neg).map pl
def qN (c:Cl):LC×Int:=cQ (tR c)
theorem Hb (s:Int):(ke s).length<=24:=by grind [ke,iE,ku]
theorem PO {c d:Cl} (h:d∈tR c):RC d:=by
 rcases dk.1 h with h|h<;>grind [HC,HM]
theorem aiy (c:Cl):(tR c).length<=48:=by
 grind [Hb,tR]
theorem NE {l:LC} (h: ∀c∈l,RC c) (hl:l.length<=64):(cQ l).2=0:=by
 have:=ahQ l
 unfold cQ
 rw [if_pos (dI.2 fun c hc=>(Db (h c hc).ok).2 (h c hc)),if_neg (by omega)]
theorem PP (c:Cl):(qN c).2=0:=NE (fun d hd=>PO hd) (by have:=aiy c;omega)
theorem Cg (c:Cl):RF (qN c).1:=tI (fun d hd=>(PO hd).ok) (PP c)
theorem agi (hk:Fu k) (Y:LC×Int->OS S) {l:List Int} (hlen:l.length<=64):
  ∀ (r p:List Int) (m:Nat) (o:LC),l=p++r->r.length<m->aw o->o.length+r.length<1073741824->qe k Y l m (p.length:Int) o=Y (cQ (o++r.map pl)):=by
 intro r
 induction r with
 |nil=>
  grind [aq,qe,zd,al,ap,nM]
 |cons x r ih=>
  intro p m o h hm hok ho
  obtain ⟨m,rfl,hm'⟩:=aq hm
  obtain ⟨e1,e2,e3,e4⟩:=aK h (by omega)
  simp only [dD] at ho
  simp only [qe,zd,e1,ao,e2,aI,ap hk,yq hk u0,e3]
  rw [bA (by grind),ih (p++[x]) m _ e4 hm' (jc hok fun c hc=>by simp at hc;subst hc;exact (HM x).ok) (by grind)]
  simp [pl]
theorem agh (hk:Fu k) (Y:LC×Int->OS S) {c:Cl} (hc:bR c) {l:List Int} (hlen:l.length<=64):
  ∀ (r p:List Int) (m:Nat) (o:LC),l=p++r->r.length<m->aw o->o.length+r.length<1000000->sU k Y c l m (p.length:Int) o=Y (cQ (o++r.map nl++(ke c.neg).map pl)):=by
 intro r
 induction r with
 |nil=>
  intro p m o h hm hok ho
  obtain ⟨m,rfl,hm'⟩:=aq hm
  simp only [iV] at ho
  have hl:=Hb c.neg
  have hk':4294967296<=k:=hk
  simp only [sU,uW,d2 h,al,xU,Pp hc.2,List.map_nil,eU]
  grind [agi]
 |cons x r ih=>
  intro p m o h hm hok ho
  obtain ⟨m,rfl,hm'⟩:=aq hm
  obtain ⟨e1,e2,e3,e4⟩:=aK h (by omega)
  simp only [dD] at ho
  simp only [sU,uW,e1,ao,e2,aI,ap hk,yq hk u0,e3]
  rw [bA (by grind),ih (p++[x]) m _ e4 hm' (jc hok fun c hc=>by simp at hc;subst hc;exact (HC x).ok) (by grind)]
  simp [nl]
theorem akQ (hk:Fu k) {c:Cl} (hc:bR c) (Y:LC×Int->OS S):AF k c Y=Y (qN c):=by
 have hl:=Hb c.pos
 simp only [AF,Jp,xU,Pp hc.1]
 have:=agh hk Y hc (l:=ke c.pos) (by omega) (ke c.pos) [] k [] rfl (by omega) (fun c hc=>by cases hc) (by grind)
 grind [qN,tR]
def mE (c:Cl) (i:Nat):LC:=(if dF c.pos i then [nl i] else [])++(if dF c.neg i then [pl i] else [])
def mF (c:Cl) (n:Nat):LC:=(d9 n).flatMap (mE c)
theorem amg (c:Cl) (i:Nat):(mE c i).length<=2:=by grind [mE]
theorem amh {c d:Cl} {i:Nat} (h:d∈mE c i):RC d:=by
 grind [mE,HC,HM]
theorem Ur (c:Cl) (n:Nat):mF c (n+1)=mF c n++mE c n:=by simp [mF,List.range_succ]
theorem Uq (c:Cl) (n:Nat):(mF c n).length<=2*n:=by
 induction n<;>grind [mF,Ur,amg]
theorem ami {c d:Cl} {n:Nat} (h:d∈mF c n):RC d:=by
 obtain ⟨i,_,hi⟩:=List.mem_flatMap.1 h;exact amh hi
theorem alx (hk:Fu k) (i:Nat) (hi:i<24) (Y:Int->OS S):l7 k [(i:Int)] Y=Y (ji 0 i):=by
 have:=uu hk [i] (by simp) (by grind) Y
 grind [ints,DJ,eG]
theorem ag3 (hk:Fu k) (Y:LC->OS S) {c:Cl} (hc:bR c): ∀ (d i m:Nat),i+d=24->d<m->th k Y c m (mF c i) (i:Int)=Y (cQ (mF c 24)).1:=by
 intro d
 induction d with
 |zero=>
  intro i m e hm
  obtain ⟨m,rfl,hm'⟩:=aq hm
  have:i=24:=by omega
  subst this
  have hlen:=Uq c 24
  simp only [th,zB,bS,ap hk,rd hk (show aw (mF c 24) from fun d hd=>(ami hd).ok) (by omega)]
  rfl
 |succ d ih=>
  intro i m e hm
  obtain ⟨m,rfl,hm'⟩:=aq hm
  have e2:(i:Int)+1=((i+1:Nat):Int):=by simp
  have hlen:=Uq c i
  simp only [th,zB,ap hk,lM hk hc.1,lM hk hc.2,eM,decide_eq_true_eq,alx hk i (by omega)]
  rw [if_pos (by omega),fY (by omega) (by omega),e2]
  have hi:=ih (i+1) m (by omega) (by omega)
  rw [Ur] at hi
  cases hp:dF c.pos (i:Int)<;>cases hn:dF c.neg (i:Int)<;>simp only [mE,hp,hn,if_true,Bool.false_eq_true,if_false,eU,eo,gZ,List.singleton_append] at hi ⊢
  ·exact hi
  ·rw [bA (by grind)];exact hi
  ·rw [bA (by grind)];exact hi
  ·rw [bA (by grind),bA (by grind)];exact hi
theorem alm (hk:Fu k) {c:Cl} (hc:bR c) (Y:LC->OS S):AX k c Y=Y (qN c).1:=by
 simp only [AX,JJ]
 have:=ag3 hk Y hc 24 0 k (by omega) (by omega)
 refine aj this ?_
 congr 2
 refine aha fun d=> ?_
 unfold mF tR
 rw [List.mem_flatMap,dk,dA,dA]
 have hs: ∀ (s:Int) (x:Int),x∈ke s↔ ∃i:Nat,i<24/\s.toNat.testBit i=true/\x=i:=by
  grind [ke,ints,mem_bitsN]
 have hh: ∀ (s:Int) (i:Nat),i<24->dF s (i:Int)=s.toNat.testBit i:=by
  grind [dF]
 constructor
 ·grind [mE]
 ·rintro (⟨x,hx,rfl⟩|⟨x,hx,rfl⟩)
  ·obtain ⟨i,h1,h2,rfl⟩:=(hs _ _).1 hx
   refine ⟨i,by grind, ?_⟩
   grind [mE]
  ·obtain ⟨i,h1,h2,rfl⟩:=(hs _ _).1 hx
   refine ⟨i,by grind, ?_⟩
   grind [mE]
def dg (step:LC->Cl->LC×Int):LC->LC->LC×Int
 |h,[]=>(h,0)
 |h,c::r=>if (step h c).2=0 then dg step (step h c).1 r else ([],(step h c).2)
def o9 (h:LC) (c:Cl):LC×Int:=fC h (qN c).1
def eZ (f:LC):LC×Int:=dg o9 [⟨0,0⟩] f
theorem ahI {f g:LC} (h:(fC f g).2≠0):(fC f g).1=[]:=ahb h
theorem MB {step:LC->Cl->LC×Int} (hs: ∀h c,RF h->(step h c).2=0->RF (step h c).1): ∀ {r h:LC},RF h->(dg step h r).2=0->RF (dg step h r).1:=by
 intro r
 induction r<;>grind [dg]
theorem HD (h:LC) (c:Cl) (hh:RF h) (h0:(o9 h c).2=0):RF (o9 h c).1:=nx hh.2 (Cg c).2 h0
theorem mt {f:LC} (h:(eZ f).2=0):RF (eZ f).1:=MB HD (lL qY) h
theorem dx (n:Int):(n==0)=decide (n=0):=by rfl
theorem akP (hk:Fu k) {h:LC} {c:Cl} (hh:RF h) (hc:bR c) (Y:LC×Int->OS S):AE k h c Y=Y (o9 h c):=by
 have:=hh.len;have:=(Cg c).len
 simp only [AE,ap hk,akQ hk hc,PP,yv hk hh.2 (Cg c).2 (show h.length<32768 by omega) (show (qN c).1.length<32768 by omega)]
 rfl
theorem afY (hk:Fu k) (Y:LC×Int->OS S) {l:LC} (hl:aw l) (hlen:l.length<2147483648):
  ∀ (r p:LC) (m:Nat) (h:LC),l=p++r->r.length<m->RF h->sR k Y l m h (p.length:Int)=Y (dg o9 h r):=by
 intro r
 induction r with
 |nil=>
  intro p m h e hm hh
  obtain ⟨m,rfl,hm'⟩:=aq hm
  simp only [sR,za,d2 e,al];rfl
 |cons x r ih=>
  intro p m h e hm hh
  obtain ⟨m,rfl,hm'⟩:=aq hm
  obtain ⟨e1,e2,e3,e4⟩:=aK e (by omega)
  have hx:bR x:=hl x (by grind)
  simp only [sR,za,e1,ao,e2,aI,ap hk,akP hk hh hx,dx,e3]
  grind [al,HD,dg,ao]
theorem Tw (hk:Fu k) {f:LC} (hf:aw f) (hlen:f.length<2147483648) (Y:LC×Int->OS S):rN k f Y=Y (eZ f):=by
 simp only [rN,ap hk,vT,FD,Jm]
 exact afY hk Y hf hlen f [] k _ rfl (by omega) (lL qY)
theorem akx (hk:Fu k) {f:LC} (hf:aw f) (hlen:f.length<2147483648) (Y:LC×Int->OS S):Az k f Y=Y (if dj f then eZ f else ([],2)):=by
 simp only [Az,ap hk,IN hk (l:=[f]) (by grind) (by simp),Tw hk hf hlen]
 have:[f].all dj=dj f:=by simp
 rw [this]
 by_cases h:dj f=true
 ·rw [if_pos h,if_pos h];rfl
 ·rw [if_neg h,if_neg h];rfl
theorem agS (hk:Fu k) (Y:LC×Int->OS S) {l:LC} (hl:aw l) (hlen:l.length<2147483648):
  ∀ (r p:LC) (m:Nat) (h:LC) (e:Int),l=p++r->r.length<m->(e=0->RF h)->(e≠0->h=[])->tf k Y l m h e (p.length:Int)=Y (if e=0 then dg o9 h r else ([],e)):=by
 intro r
 induction r with
 |nil=>
  intro p m h e el hm h1 h2
  obtain ⟨m,rfl,hm'⟩:=aq hm
  simp only [tf,zA,d2 el,al]
  by_cases h0:e=0
  ·rw [if_pos h0,h0];rfl
  grind
 |cons x r ih=>
  intro p m h e el hm h1 h2
  obtain ⟨m,rfl,hm'⟩:=aq hm
  obtain ⟨e1,e2,e3,e4⟩:=aK el (by omega)
  have hx:bR x:=hl x (by grind)
  simp only [tf,zA,e1,ao,dx,e3,e2,aI,ap hk,alm hk hx]
  by_cases h0:e=0
  ·have hh:=h1 h0
   rw [decide_eq_true h0,ao,Dj hk hh (Cg x),if_pos h0]
   have:=ih (p++[x]) m (o9 h x).1 (o9 h x).2 e4 hm' (fun h0=>HD h x hh h0) (fun h0=>ahI h0)
   exact this
  grind [al]
theorem TO (hk:Fu k) {f:LC} (hf:aw f) (hlen:f.length<2147483648) (Y:LC×Int->OS S):rW k f Y=Y (if dj f then eZ f else ([],2)):=by
 simp only [rW,JH,ap hk,kQ hk hf hlen]
 by_cases h:dj f=true
 ·rw [h,cF,al,if_pos rfl]
  have:=agS hk Y hf hlen f [] k [⟨0,0⟩] 0 rfl (by omega) (fun _=>lL qY) (fun h=>absurd rfl h)
  rw [if_pos rfl] at this
  exact this
 grind [ao]
def ei (i:Int) (c:Cl):Cl:=⟨fX c.pos i,fX c.neg i⟩
theorem mZ (i:Int) (c:Cl):RC (ei i c):=⟨Kw,Kw⟩
def g_ (i:Int) (r:LC) (c:Cl):LC×Int:=if dF c.pos i then fC [ei i c] r else ([ei i c],0)
def jd (i:Int) (r:LC) (c:Cl) (g:LC):LC×Int:=if dF c.neg i then if (eZ r).2=0 then fC g (eZ r).1 else ([],(eZ r).2) else (g,0)
def gV (i:Int) (r h:LC) (c:Cl):LC×Int:=
 if (g_ i r c).2=0 then if (jd i r c (g_ i r c).1).2=0 then eO h (jd i r c (g_ i r c).1).1 else ([],(jd i r c (g_ i r c).1).2) else ([],(g_ i r c).2)
def ot (i:Int):Bool:=decide (0<=i/\i<24)
def lH (f:LC) (i:Int) (r:LC):LC×Int:=if dj f&&dj r&&ot i then dg (gV i r) [] f else ([],2)
theorem aiJ {i:Int} {r:LC} {c:Cl} (hr:RF r) (h:(g_ i r c).2=0):RF (g_ i r c).1:=by
 unfold g_ at h ⊢
 split
 ·next hh=>rw [if_pos hh] at h;exact nx (lL (mZ i c)).2 hr.2 h
 simp_all [lL,mZ]
theorem aiL {i:Int} {r g:LC} {c:Cl} (hg:RF g) (h:(jd i r c g).2=0):RF (jd i r c g).1:=by
 unfold jd at h ⊢
 split
 ·next hh=>
  rw [if_pos hh] at h
  split
  ·next hn=>rw [if_pos hn] at h;exact nx hg.2 (mt hn).2 h
  grind
 omega
theorem PZ {i:Int} {r:LC} (hr:RF r) (h:LC) (c:Cl) (hh:RF h) (h0:(gV i r h c).2=0):RF (gV i r h c).1:=by
 unfold gV at h0 ⊢
 split
 ·next ha=>
  rw [if_pos ha] at h0
  have hA:=aiJ hr ha
  split
  ·next hb=>rw [if_pos hb] at h0;exact M3 hh.2 (aiL hA hb).2 h0
  grind
 grind
theorem ake (hk:Fu k) {i:Int} {r h:LC} {c:Cl} (hr:RF r) (hh:RF h) (hc:bR c) (Y:LC×Int->OS S):AC k h c i r Y=Y (gV i r h c):=by
 have l1:=hr.len;have l2:=hh.len
 have hg:=lL (mZ i c)
 simp only [AC,ap hk,yr hk hc.1,yr hk hc.2,ul hk hc.1,ul hk hc.2,yv hk hg.2 hr.2 (show [ei i c].length<32768 by simp) (show r.length<32768 by omega),Tw hk hr.2 hr.lt,dx,eM,decide_eq_true_eq,kn,decide_eq_false_iff_not]
 have e: ∀ (f:LC×Int->OS S),mT k [Cl.mk (fX c.pos i) (fX c.neg i)] r f=f (fC [ei i c] r):=fun f=>yv hk hg.2 hr.2 (by simp) (by omega) f
 simp only [e]
 unfold gV g_ jd
 by_cases hp:dF c.pos i=true
 ·simp only [hp,if_true]
  by_cases h1:(fC [ei i c] r).2=0
  ·have hA:RF (fC [ei i c] r).1:=nx hg.2 hr.2 h1
   have l3:=hA.len
   simp only [h1,not_true,if_false,if_true]
   by_cases hn:dF c.neg i=true
   ·simp only [hn,if_true]
    by_cases h2:(eZ r).2=0
    ·have hN:=mt h2
     have l4:=hN.len
     simp only [h2,not_true,if_false,if_true]
     rw [yv hk hA.2 hN.2 (by omega) (by omega)]
     by_cases h3:(fC (fC [ei i c] r).1 (eZ r).1).2=0
     ·have hB:=nx hA.2 hN.2 h3
      have l5:=hB.len
      simp only [h3,not_true,if_false,if_true]
      rw [Dh hk hh.2 hB.2 (by omega) (by omega)]
     grind
    grind
   ·simp only [hn,Bool.false_eq_true,if_false,if_true]
    rw [Dh hk hh.2 hA.2 (by omega) (by omega)]
  grind
 ·simp only [hp,Bool.false_eq_true,if_false,if_true]
  by_cases hn:dF c.neg i=true
  ·simp only [hn,if_true]
   by_cases h2:(eZ r).2=0
   ·have hN:=mt h2
    have l4:=hN.len
    simp only [h2,not_true,if_false,if_true]
    have e2: ∀ (f:LC×Int->OS S),mT k [Cl.mk (fX c.pos i) (fX c.neg i)] (eZ r).1 f=f (fC [ei i c] (eZ r).1):=fun f=>yv hk hg.2 hN.2 (by simp) (by omega) f
    rw [e2]
    by_cases h3:(fC [ei i c] (eZ r).1).2=0
    ·have hB:=nx hg.2 hN.2 h3
     have l5:=hB.len
     simp only [h3,not_true,if_false,if_true]
     rw [Dh hk hh.2 hB.2 (by omega) (by omega)]
    grind
   grind
  ·simp only [hn,Bool.false_eq_true,if_false,if_true]
   have:=Dh hk hh.2 hg.2 (by omega) (by simp) Y
   exact this
theorem afZ (hk:Fu k) (Y:LC×Int->OS S) {i:Int} {q:LC} (hq:RF q) {l:LC} (hl:aw l) (hlen:l.length<2147483648):
  ∀ (r p:LC) (m:Nat) (h:LC),l=p++r->r.length<m->RF h->sQ k Y i q l m h (p.length:Int)=Y (dg (gV i q) h r):=by
 intro r
 induction r with
 |nil=>
  intro p m h e hm hh
  obtain ⟨m,rfl,hm'⟩:=aq hm
  simp only [sQ,y_,d2 e,al];rfl
 |cons x r ih=>
  intro p m h e hm hh
  obtain ⟨m,rfl,hm'⟩:=aq hm
  obtain ⟨e1,e2,e3,e4⟩:=aK e (by omega)
  have hx:bR x:=hl x (by grind)
  simp only [sQ,y_,e1,ao,e2,aI,ap hk,ake hk hq hh hx,dx,e3]
  grind [al,PZ,dg,ao]
theorem aj5 (hk:Fu k) (i:Int) (Y:LC×Int->OS S):Ay k i Y=Y (if ot i then ([⟨ji 0 i,0⟩],0) else ([],2)):=by
 simp only [Ay,ap hk,yq hk u0]
 grind [ot,DJ,Fj,al,Fi,ao]
theorem aky (hk:Fu k) {f r:LC} {i:Int} (hf:aw f) (hr:aw r) (h1:f.length<2147483648) (h2:r.length<2147483648) (Y:LC×Int->OS S):AB k f i r Y=Y (lH f i r):=by
 simp only [AB,ap hk,IN hk (l:=[f,r]) (by grind) (by simp),aj5 hk]
 have e:[f,r].all dj=(dj f&&dj r):=by simp
 unfold lH
 by_cases ha:(dj f&&dj r)=true
 ·rw [e,if_pos ha,ha,hX]
  rw [show ((0:Int)==0)=true from rfl,cF,al]
  cases hd:ot i with
  |true=>
   rw [if_pos rfl,if_pos rfl]
   rw [show ((0:Int)==0)=true from rfl,cF,al]
   simp only [rM,FC,Jl]
   have hr':=(jC hr).1 (by grind)
   exact afZ hk Y hr' hf h1 f [] k [] rfl (by omega) uf
  |false=>
   rfl
 simp_all [if_neg,ao]
theorem aiQ (hk:Fu k) (Y:LC×Int->OS S) (rec0:LC->Int->OS S) (f:LC) (i:Int) (r:LC) {h:LC} {v:Int} {g:LC} {e:Int} (hh:RF h) (hg:e=0->RF g):
  tg k Y rec0 f i r h v k g e=if e=0 then if (eO h g).2=0 then rec0 (eO h g).1 (ag .i64 (v+1)) else Y ([],(eO h g).2) else Y ([],e):=by
 obtain ⟨q,hq⟩: ∃q,k=q+1:=⟨k-1,by omega⟩
 grind [tg,E3,ao,ap,akX,al]
theorem agT (hk:Fu k) (Y:LC×Int->OS S) {i:Int} {q:LC} (hq:RF q) {l:LC} (hl:aw l) (hlen:l.length<2147483648):
  ∀ (r p:LC) (m:Nat) (h:LC),l=p++r->r.length<m->RF h->oS k Y l i q m h (p.length:Int)=Y (dg (gV i q) h r):=by
 intro r
 induction r with
 |nil=>
  intro p m h e hm hh
  obtain ⟨m,rfl,hm'⟩:=aq hm
  simp only [oS,u6,d2 e,al];rfl
 |cons x r ih=>
  intro p m h e hm hh
  obtain ⟨m,rfl,hm'⟩:=aq hm
  obtain ⟨e1,e2,e3,e4⟩:=aK e (by omega)
  have hx:bR x:=hl x (by grind)
  have hg:=lL (mZ i x)
  have key: ∀ (g:LC) (e:Int),(e=0->RF g)->(gV i q h x=if e=0 then eO h g else ([],e))->tg k Y (oS k Y l i q m) l i q h (p.length:Int) k g e=Y (dg (gV i q) h (x::r)):=by
   intro g e hge hput
   rw [aiQ hk _ _ _ _ _ hh hge,dg,hput]
   by_cases h0:e=0
   ·rw [if_pos h0,if_pos h0]
    by_cases h1:(eO h g).2=0
    ·rw [if_pos h1,if_pos h1,e3]
     exact ih (p++[x]) m _ e4 hm' (M3 hh.2 (hge h0).2 h1)
    grind
   grind
  have em: ∀ (f:LC×Int->OS S),mV k [Cl.mk (fX x.pos i) (fX x.neg i)] q f=f (fC [ei i x] q):=fun f=>Dj hk hg hq f
  simp only [oS,u6,e1,ao,e2,aI,ap hk,Dp hk hx.1,Dp hk hx.2,lM hk hx.1,lM hk hx.2,em,TO hk hq.2 hq.lt,hq.right,if_true,dx]
  cases hp:dF x.pos i with
  |true=>
   rw [ao]
   by_cases h1:(fC [ei i x] q).2=0
   ·have hA:RF (fC [ei i x] q).1:=nx hg.2 hq.2 h1
    rw [decide_eq_true h1,ao]
    cases hn:dF x.neg i with
    |true=>
     rw [ao]
     by_cases h2:(eZ q).2=0
     ·rw [decide_eq_true h2,ao,Dj hk hA (mt h2)]
      exact key _ _ (fun h0=>nx hA.2 (mt h2).2 h0) (by grind [gV,g_,jd])
     grind [al,gV,g_,jd]
    |false=>
     grind [al,gV,g_,jd]
   grind [al,gV,g_]
  |false=>
   rw [al]
   cases hn:dF x.neg i with
   |true=>
    rw [ao]
    by_cases h2:(eZ q).2=0
    ·have em2: ∀ (f:LC×Int->OS S),mV k [Cl.mk (fX x.pos i) (fX x.neg i)] (eZ q).1 f=f (fC [ei i x] (eZ q).1):=fun f=>Dj hk hg (mt h2) f
     rw [decide_eq_true h2,ao,em2]
     exact key _ _ (fun h0=>nx hg.2 (mt h2).2 h0) (by grind [gV,g_,jd])
    grind [al,gV,g_,jd]
   |false=>
    grind [al,ei,gV,g_,jd]
theorem ala (hk:Fu k) {f r:LC} {i:Int} (hf:aw f) (hr:aw r) (h1:f.length<2147483648) (h2:r.length<2147483648) (Y:LC×Int->OS S):AW k f i r Y=Y (lH f i r):=by
 simp only [AW,JI,ap hk,kQ hk hf h1,kQ hk hr h2,bS]
 unfold lH ot
 cases ha:dj f with
 |false=>rfl
 |true=>
  rw [cF,al]
  cases hb:dj r with
  |false=>rfl
  |true=>
   rw [cF,al]
   by_cases h3:i<0
   ·grind
   ·by_cases h4:i>=24
    ·grind
    ·rw [if_neg h3,if_neg h4,decide_eq_true (by omega)]
     exact agT hk Y ((jC hr).1 hb) hf h1 f [] k [] rfl (by omega) uf
theorem ahm {m n b:Nat}:(iF m n b).1<16777216:=by
 have h1:m&&&M24<16777216:=ko Nat.and_le_right (by decide)
 have h2:kN m n<=m&&&M24:=Nat.and_le_left
 unfold iF
 split
 ·omega
 ·split
  ·simp
  ·split
   ·simp
   ·exact Nat.or_lt_two_pow (n:=24) (by omega) (by omega)
theorem NH (s i b:Int):0<=(eY s i b).1/\(eY s i b).1<16777216:=by
 grind [eY,ahm]
theorem NG (c:Cl) (i b:Int):RC (fV c i b).1:=by
 unfold fV
 split
 ·split
  ·split
   ·exact ⟨NH _ _ _,NH _ _ _⟩
   ·exact qY
  ·exact qY
 ·exact qY
def gH (i b:Int) (h:LC) (c:Cl):LC×Int:=(h++[(fV c i b).1],(fV c i b).2)
def di (f:LC) (i b:Int):LC×Int:=if dj f then if (dg (gH i b) [] f).2=0 then cQ (dg (gH i b) [] f).1 else ([],(dg (gH i b) [] f).2) else ([],2)
theorem MC {i b:Int}: ∀ {r h:LC},aw h->aw (dg (gH i b) h r).1/\(dg (gH i b) h r).1.length<=h.length+r.length:=by
 intro r
 induction r with
 |nil=>intro h hh;exact ⟨hh,by show h.length<=_;omega⟩
 |cons c r ih=>
  intro h hh
  unfold dg
  split
  ·have:=ih (h:=(gH i b h c).1) (jc hh fun d hd=>by simp at hd;subst hd;exact (NG c i b).ok)
   grind [gH]
  ·exact ⟨fun d hd=>(by cases hd),by simp⟩
theorem afX (hk:Fu k) (Y:LC×Int->OS S) {i b:Int} (hi:aQ i) (hb:aQ b) {l:LC} (hl:aw l) (hlen:l.length<2147483648):
  ∀ (r p:LC) (m:Nat) (h:LC),l=p++r->r.length<m->h.length+r.length<4294967296->sS k Y i b l m h (p.length:Int)=Y (dg (gH i b) h r):=by
 intro r
 induction r with
 |nil=>
  intro p m h e hm hh
  obtain ⟨m,rfl,hm'⟩:=aq hm
  simp only [sS,zb,d2 e,al];rfl
 |cons x r ih=>
  intro p m h e hm hh
  obtain ⟨m,rfl,hm'⟩:=aq hm
  obtain ⟨e1,e2,e3,e4⟩:=aK e (by omega)
  have hx:bR x:=hl x (by grind)
  simp only [dD] at hh
  simp only [sS,zb,e1,ao,e2,aI,ap hk,FB,akr hk hx hi hb,dx,e3]
  grind [bA,al,dg,gH,ao]
theorem yu (hk:Fu k) {f:LC} {i b:Int} (hf:aw f) (hlen:f.length<1073741824) (hi:aQ i) (hb:aQ b) (Y:LC×Int->OS S):n8 k f i b Y=Y (di f i b):=by
 have hlo:=MC (i:=i) (b:=b) (r:=f) (h:=[]) (fun d hd=>by cases hd)
 simp only [iV] at hlo
 have hfold: ∀ (g:LC×Int->OS S),AD k f [] i b g=g (dg (gH i b) [] f):=fun g=>by
  simp only [AD,Jn]
  exact afX hk g hi hb hf (by omega) f [] k [] rfl (by omega) (by grind)
 simp only [n8,ap hk,IN hk (l:=[f]) (by grind) (by simp),rM,hfold,nM hk hlo.1 (show _<2147483648 by omega)]
 grind [di,al,decide_eq_false,ao]
theorem agI (hk:Fu k) (Y:LC×Int->OS S) {i b:Int} (hi:aQ i) (hb:aQ b) {l:LC} (hl:aw l) (hlen:l.length<1073741824):
  ∀ (r p:LC) (m:Nat) (h:LC),l=p++r->r.length<m->aw h->h.length+r.length<2147483648->te k Y l i b m h (p.length:Int)=Y (if (dg (gH i b) h r).2=0 then cQ (dg (gH i b) h r).1 else ([],(dg (gH i b) h r).2)):=by
 intro r
 induction r with
 |nil=>
  grind [aq,te,zy,al,ap,rd,dg]
 |cons x r ih=>
  intro p m h e hm hok hh
  obtain ⟨m,rfl,hm'⟩:=aq hm
  obtain ⟨e1,e2,e3,e4⟩:=aK e (by omega)
  have hx:bR x:=hl x (by grind)
  simp only [dD] at hh
  simp only [te,zy,e1,ao,e2,aI,ap hk,akW hk hx hi hb,dx,e3]
  by_cases h0:(fV x i b).2=0
  ·rw [decide_eq_true h0,cF,al,bA (by grind),ih (p++[x]) m _ e4 hm' (jc hok fun d hd=>by simp at hd;subst hd;exact (NG x i b).ok) (by grind),dg,if_pos (show (gH i b h x).2=0 from h0)];rfl
  grind [ao,dg,gH]
theorem Di (hk:Fu k) {f:LC} {i b:Int} (hf:aw f) (hlen:f.length<1073741824) (hi:aQ i) (hb:aQ b) (Y:LC×Int->OS S):oh k f i b Y=Y (di f i b):=by
 simp only [oh,JF,ap hk,kQ hk hf (show f.length<2147483648 by omega)]
 unfold di
 cases hr:dj f with
 |true=>
  rw [cF,al,if_pos rfl]
  exact agI hk Y hi hb hf hlen f [] k [] rfl (by omega) (fun d hd=>by cases hd) (by grind)
 |false=>
  rfl
theorem nu {f:LC} {i b:Int} (h:(di f i b).2=0):RF (di f i b).1:=by
 unfold di at h ⊢
 split
 ·next hr=>
  rw [if_pos hr] at h
  split
  ·next h0=>
   rw [if_pos h0] at h
   exact tI (MC fun d hd=>by cases hd).1 h
  grind
 grind
def Ch (s:Nat) (f:LC):Nat:=f.foldl (fun s c=>s|||(c.pos.toNat|||c.neg.toNat)) s
def jr (f:LC):Nat:=Ch 0 f&&&M24
def lf (f:LC):Int:=((jr f:Nat):Int)
def lP (f:LC) (i:Nat):Bool:=f.any fun c=>c.pos.toNat.testBit i||c.neg.toNat.testBit i
theorem aiz (i:Nat): ∀ {f:LC} {s:Nat},(Ch s f).testBit i=(s.testBit i||lP f i):=by
 intro f
 induction f<;>simp_all [Ch,lP,Bool.or_assoc]
theorem Bh (f:LC) (i:Nat):(jr f).testBit i=(lP f i&&decide (i<24)):=by
 grind [jr,k_,aiz]
theorem FY (f:LC):jr f<16777216:=ko Nat.and_le_right (by decide)
theorem afI (hk:Fu k) (Y:Int->OS S) {l:LC} (hl:aw l) (hlen:l.length<4294967296):
  ∀ (r p:LC) (m:Nat) (s:Nat),l=p++r->r.length<m->s<4294967296->sP k Y l m (s:Int) (p.length:Int)=Y (((Ch s r&&&M24:Nat):Int)):=by
 intro r
 induction r with
 |nil=>
  intro p m s e hm hs
  obtain ⟨m,rfl,hm'⟩:=aq hm
  simp only [sP,y9,d2 e,al,ap hk,yr hk (U32.of hs)]
  rfl
 |cons x r ih=>
  intro p m s e hm hs
  obtain ⟨m,rfl,hm'⟩:=aq hm
  obtain ⟨e1,e2,e3,e4⟩:=aK e (by omega)
  have hx:bR x:=hl x (by grind)
  have ho:U32 (ij x.pos x.neg):=HI hx.1 hx.2
  have hq:s|||(x.pos.toNat|||x.neg.toNat)<4294967296:=by
   have h1:=hx.1.1;have h2:=hx.1.2;have h3:=hx.2.1;have h4:=hx.2.2
   have h32:(2:Nat)^32=4294967296:=by decide
   exact Nat.or_lt_two_pow (n:=32) hs (Nat.or_lt_two_pow (n:=32) (by omega) (by omega))
  have es:ij (s:Int) (ij x.pos x.neg)=((s|||(x.pos.toNat|||x.neg.toNat):Nat):Int):=by rfl
  simp only [sP,y9,e1,ao,e2,aI,tT hx.1 hx.2,tT (U32.of hs) ho,e3,es]
  exact ih (p++[x]) m _ e4 hm' hq
theorem IL (hk:Fu k) {f:LC} (hf:aw f) (hlen:f.length<4294967296) (Y:Int->OS S):rL k f Y=Y (lf f):=by
 simp only [rL,Jk]
 exact afI hk Y hf hlen f [] k 0 rfl (by omega) (by decide)
theorem ad_ (s:Int) (i:Nat) (hi:i<24):dF s (i:Int)=s.toNat.testBit i:=by
 grind [dF]
theorem agD (hk:Fu k) (Y:Int->OS S) (rec0:List Int->Int->OS S) {l:LC} (hl:aw l) (hlen:l.length<4294967296) (o:List Int) (ho:o.length<=64) (i:Nat) (hi:i<24):
  ∀ (r p:LC) (m:Nat) (b:Bool),l=p++r->r.length<m->ql k Y rec0 l o (i:Int) m b (p.length:Int)=rec0 (if b||lP r i then o++[(i:Int)] else o) ((i+1:Nat):Int):=by
 intro r
 induction r with
 |nil=>
  grind [aq,ql,zx,al,lP,fY,ao,bA]
 |cons x r ih=>
  intro p m b e hm
  obtain ⟨m,rfl,hm'⟩:=aq hm
  obtain ⟨e1,e2,e3,e4⟩:=aK e (by omega)
  have hx:bR x:=hl x (by grind)
  have eu:lP (x::r) i=((x.pos.toNat.testBit i||x.neg.toNat.testBit i)||lP r i):=by rfl
  simp only [ql,zx,e1,ao,e2,aI,ap hk,lM hk hx.1,lM hk hx.2,ad_ _ _ hi,e3,eu]
  cases b<;>grind [ao,al]
def pX (f:LC) (n:Nat):List Nat:=(d9 n).filter (lP f)
theorem agC (hk:Fu k) (Y:Int->OS S) {f:LC} (hf:aw f) (hlen:f.length<1073741824): ∀ (d i m:Nat),i+d=24->d<m->oQ k Y f m (ints (pX f i)) (i:Int)=Y ((eG (pX f 24):Nat):Int):=by
 have hl: ∀n,n<=24->(pX f n).length<=24:=fun n hn=>by
  grind [pX]
 intro d
 induction d with
 |zero=>
  intro i m e hm
  obtain ⟨m,rfl,hm'⟩:=aq hm
  have:i=24:=by omega
  subst this
  simp only [oQ,u4,bS,ap hk]
  rw [if_neg (by omega),uu hk _ (by grind) fun x hx=>by
   have:=(iW.1 hx).1;grind]
 |succ d ih=>
  intro i m e hm
  obtain ⟨m,rfl,hm'⟩:=aq hm
  have hk':4294967296<=k:=hk
  have hli:=hl i (by omega)
  simp only [oQ,u4,bS]
  rw [if_pos (by omega)]
  have:=agD hk Y (oQ k Y f m) hf (by omega) (ints (pX f i)) (by rw [iE];omega) i (by omega) f [] k false rfl (by omega)
  simp only [iV] at this
  rw [show (0:Int)=((0:Nat):Int) from rfl,this,Bool.false_or,<-ih (i+1) m (by omega) (by omega)]
  grind [pX,List.range_succ,ints]
theorem TJ (hk:Fu k) {f:LC} (hf:aw f) (hlen:f.length<1073741824) (Y:Int->OS S):wj k f Y=Y (lf f):=by
 simp only [wj,JE]
 have:=agC hk Y hf hlen 24 0 k (by omega) (by omega)
 refine aj this ?_
 congr 2
 apply h8
 grind [rf,pX,List.nodup_range,Bh]
def eP (f:LC) (d:Int):Bool:=decide (∀i∈dN (jr f),(i:Int)<d)
theorem TY (hk:Fu k) {f:LC} {d:Int} (hf:aw f) (hlen:f.length<4294967296) (hd:0<=d) (hd':d<9223372036854775808) (Y:Bool->OS S):oq k f d Y=Y (eP f d):=by
 simp only [oq,bS,ap hk,IL hk hf hlen]
 by_cases h:d>=24
 ·grind [eP,mem_bitsN]
 ·rw [if_neg h]
  obtain ⟨n,rfl⟩: ∃n:Nat,d=n:=⟨d.toNat,by omega⟩
  rw [lQ n (by omega),Ah (by omega),gb,Nat.min_eq_left (by omega)]
  congr 1
  rw [lf,Gn,eP,jK]
  simp only [beq_iff_eq,decide_eq_true_eq]
  have hdiv:(jr f/2^n=0)↔jr f<2^n:=Nat.div_eq_zero_iff_lt (Nat.two_pow_pos n)
  constructor
  ·grind [mem_bitsN,gM,jL,Nat.testBit_lt_two_pow]
  ·intro h0
   have:jr f<2^n:=by
    apply Nat.lt_pow_two_of_testBit
    grind [mem_bitsN,nX,FY]
   omega
theorem aaw (m:Nat):(dN m).Pairwise (· < ·):=List.Pairwise.filter _ List.pairwise_lt_range
theorem TB (hk:Fu k) {f:LC} {d:Int} (hf:aw f) (hlen:f.length<1073741824) (Y:Bool->OS S):wm k f d Y=Y (eP f d):=by
 have hlt:=FY f
 simp only [wm,ap hk,TJ hk hf hlen,lf,ut hk (show jr f<4294967296 by omega),iE]
 have hs:=aaw (jr f)
 have hl:=ku (jr f)
 unfold eP
 generalize dN (jr f)=l at hs hl
 by_cases h0:l=[]
 ·simp_all [ao]
 ·have hpos:0<l.length:=List.length_pos_iff.2 h0
  have hb:((l.length:Int)==0)=false:=by grind
  have e1:(l.length:Int)-1=((l.length-1:Nat):Int):=by omega
  rw [hb,al,fY (by omega) (by omega),e1,wV,GE,dm (by omega)]
  simp only [Option.map_some,aI]
  congr 1
  rw [jK,decide_eq_true_eq,decide_eq_true_eq]
  constructor
  ·intro h i hi
   obtain ⟨j,hj,rfl⟩:=List.getElem_of_mem hi
   have:l[j]<=l[l.length-1]:=by
    grind [List.pairwise_iff_getElem]
   grind
  grind
def nY (c:Cl):Bool:= !dJ c
def fQ (l:LC):LC:=l.filter nY
def eQ (f:LC):Bool:=dj f&&f.all fun c=> !dJ c
def RFa (f:LC):Prop:=RF f/\ ∀c∈f,dJ c=false
theorem qZ {f:LC} (h:aw f):eQ f=true↔RFa f:=by
 grind [eQ,RFa,jC]
theorem RFa.right {f:LC} (h:RFa f):eQ f=true:=(qZ h.1.2).2 h
theorem K3 {l:LC} (h: ∀c∈l,dJ c=false):fQ l=l:=List.filter_eq_self.2 fun c hc=>by grind [nY]
theorem Fc {l:LC} {c:Cl} (h:c∈fQ l):c∈l/\dJ c=false:=by
 have:=iW.1 h
 grind [nY]
theorem K5 {l:LC} (h:aw l):aw (fQ l):=fun c hc=>h c (Fc hc).1
theorem ND {l:LC} (hl:aw l) (hc: ∀c∈l,dJ c=false) (h:(cQ l).2=0):RFa (cQ l).1:=by
 refine ⟨tI hl h,fun c hcm=> ?_⟩
 grind [cQ,mem_mins]
theorem Iy:RFa []:=⟨uf,fun c hc=>by cases hc⟩
theorem Da {c:Cl} (h:RC c) (h':dJ c=false):RFa [c]:=⟨lL h,fun d hd=>by grind⟩
theorem K4 (l:LC):(fQ l).length<=l.length:=List.length_filter_le _ _
theorem afE (hk:Fu k) (Y:Int->OS S) {l:LC} (hl:aw l) (hlen:l.length<2147483648):
  ∀ (r p:LC) (m:Nat),l=p++r->r.length<m-> ∃v:Int,decide (v>=0)=r.any dJ/\tB k Y l m (p.length:Int)=Y v:=by
 intro r
 induction r with
 |nil=>
  intro p m h hm
  obtain ⟨m,rfl,hm'⟩:=aq hm
  exact ⟨-1,rfl,by grind [tB,zZ,al]⟩
 |cons x r ih=>
  intro p m h hm
  obtain ⟨m,rfl,hm'⟩:=aq hm
  obtain ⟨e1,e2,e3,e4⟩:=aK h (by omega)
  have hx:bR x:=hl x (by grind)
  obtain ⟨v,hv,hr⟩:=ih (p++[x]) m e4 hm'
  grind [tB,zZ,ao,ap,To,al]
theorem IM (hk:Fu k) {f:LC} (hf:aw f) (hlen:f.length<2147483648) (Y:Bool->OS S):mS k f Y=Y (eQ f):=by
 obtain ⟨v,hv,hr⟩:=afE hk (fun r1:Int=>(fun r2:Bool=>Y (!r2)) (decide (r1>=0))) hf hlen f [] k rfl (by omega)
 simp only [mS,ap hk,um hk hf hlen,FR,FT,Kd]
 grind [eQ,dj,ao,al]
theorem agn (hk:Fu k) (Y:Bool->OS S) {l:LC} (hl: ∀c∈l,RC c) (hlen:l.length<2147483648):
  ∀ (r p:LC) (m:Nat),l=p++r->r.length<m->ti k Y l m (p.length:Int)=Y (r.all fun c=> !dJ c):=by
 intro r
 induction r with
 |nil=>
  grind [aq,ti,zE,al]
 |cons x r ih=>
  intro p m h hm
  obtain ⟨m,rfl,hm'⟩:=aq hm
  obtain ⟨e1,e2,e3,e4⟩:=aK h (by omega)
  have hx:RC x:=hl x (by grind)
  grind [ti,zE,ao,ap,TG,al]
theorem re (hk:Fu k) {f:LC} (hf:aw f) (hlen:f.length<2147483648) (Y:Bool->OS S):l_ k f Y=Y (eQ f):=by
 simp only [l_,JM,ap hk,kQ hk hf hlen]
 unfold eQ
 cases hr:dj f with
 |true=>
  have h:=(jC hf).1 hr
  rw [cF,al,hX]
  exact agn hk Y (fun c hc=>h.rc hc) hlen f [] k rfl (by omega)
 |false=>rfl
def kM (l:LC):LC×Int:=cQ (fQ l)
def jz (f:LC):LC×Int:=if dj f then kM f else ([],2)
def kg (f:LC):LC×Int:=if dj f then if (eZ f).2=0 then kM (eZ f).1 else ([],(eZ f).2) else ([],2)
theorem G6 {l:LC} (hl:aw l) (h:(kM l).2=0):RFa (kM l).1:=ND (K5 hl) (fun c hc=>(Fc hc).2) h
theorem HE {f:LC} (h:(jz f).2=0) (hf:aw f):RFa (jz f).1:=by
 grind [jz,G6]
theorem HF {f:LC} (h:(kg f).2=0) (hf:aw f):RFa (kg f).1:=by
 unfold kg at h ⊢
 split
 ·next hr=>
  rw [if_pos hr] at h
  split
  ·next h0=>rw [if_pos h0] at h;exact G6 (mt h0).2 h
  grind
 grind
theorem Tu (hk:Fu k) {c:Cl} (hc:bR c) (Y:Cl×Bool->OS S):vQ k c Y=Y (c,nY c):=by
 simp only [vQ,ap hk,To hk hc];rfl
theorem af6 (hk:Fu k) (Y:LC->OS S) {l:LC} (hl:aw l) (hlen:l.length<2147483648):
  ∀ (r p:LC) (m:Nat) (o:LC),l=p++r->r.length<m->o.length+r.length<4294967296->sN k Y l m (p.length:Int) o=Y (o++fQ r):=by
 intro r
 induction r with
 |nil=>
  grind [aq,sN,y7,al,fQ]
 |cons x r ih=>
  intro p m o h hm ho
  obtain ⟨m,rfl,hm'⟩:=aq hm
  obtain ⟨e1,e2,e3,e4⟩:=aK h (by omega)
  have hx:bR x:=hl x (by grind)
  simp only [dD] at ho
  simp only [sN,y7,e1,ao,e2,aI,ap hk,Tu hk hx,e3]
  grind [ao,bA,fQ,al]
theorem akH (hk:Fu k) {l:LC} (hl:aw l) (hlen:l.length<2147483648) (Y:LC->OS S):Aw k l Y=Y (fQ l):=by
 simp only [Aw,Ji]
 have:=af6 hk Y hl hlen l [] k [] rfl (by omega) (by grind)
 grind
theorem Tv (hk:Fu k) {f:LC} (hf:aw f) (hlen:f.length<2147483648) (Y:LC×Int->OS S):vP k f Y=Y (jz f):=by
 have:=K4 f
 simp only [vP,ap hk,um hk hf hlen,akH hk hf hlen,nM hk (K5 hf) (show (fQ f).length<2147483648 by omega)]
 unfold jz
 cases dj f with
 |true=>rfl
 |false=>rfl
theorem akA (hk:Fu k) {f:LC} (hf:aw f) (hlen:f.length<2147483648) (Y:LC×Int->OS S):As k f Y=Y (kg f):=by
 simp only [As,ap hk,akx hk hf hlen,dx]
 unfold kg
 cases dj f with
 |true=>
  rw [if_pos rfl,if_pos rfl]
  by_cases h0:(eZ f).2=0
  ·have hr:=mt h0
   rw [decide_eq_true h0,cF,al,if_pos h0,Tv hk hr.2 hr.lt]
   unfold jz
   rw [if_pos hr.right]
  grind [ao]
 |false=>
  rfl
theorem ago (hk:Fu k) (Y:LC×Int->OS S) {l:LC} (hl: ∀c∈l,RC c) (hlen:l.length<1073741824):
  ∀ (r p:LC) (m:Nat) (o:LC),l=p++r->r.length<m->aw o->o.length+r.length<2147483648->tj k Y l m o (p.length:Int)=Y (cQ (o++fQ r)):=by
 intro r
 induction r with
 |nil=>
  grind [aq,tj,zF,al,fQ,ap,rd]
 |cons x r ih=>
  intro p m o h hm hok ho
  obtain ⟨m,rfl,hm'⟩:=aq hm
  obtain ⟨e1,e2,e3,e4⟩:=aK h (by omega)
  have hx:RC x:=hl x (by grind)
  simp only [dD] at ho
  simp only [tj,zF,e1,ao,e2,aI,ap hk,TG hk hx,e3]
  cases hb:dJ x with
  |false=>
   rw [dQ,ao,bA (by grind),ih (p++[x]) m (o++[x]) e4 hm' (jc hok fun c hc=>by simp at hc;subst hc;exact hx.ok) (by grind)]
   grind [fQ,nY]
  |true=>
   grind [al,fQ,nY]
theorem Dk (hk:Fu k) {l:LC} (hl: ∀c∈l,RC c) (hlen:l.length<1073741824) (Y:LC×Int->OS S):pV k l Y=Y (kM l):=by
 simp only [pV,JN]
 have:=ago hk Y hl hlen l [] k [] rfl (by omega) (fun c hc=>by cases hc) (by grind)
 grind [kM]
theorem ak0 (hk:Fu k) {f:LC} (hf:aw f) (hlen:f.length<1073741824) (Y:LC×Int->OS S):AY k f Y=Y (jz f):=by
 simp only [AY,ap hk,kQ hk hf (show f.length<2147483648 by omega)]
 unfold jz
 cases hr:dj f with
 |true=>
  have h:=(jC hf).1 hr
  rw [cF,al,if_pos rfl,Dk hk (fun c hc=>h.rc hc) hlen]
 |false=>rfl
theorem ak1 (hk:Fu k) {f:LC} (hf:aw f) (hlen:f.length<2147483648) (Y:LC×Int->OS S):wk k f Y=Y (kg f):=by
 simp only [wk,ap hk,TO hk hf hlen,dx]
 unfold kg
 cases dj f with
 |true=>
  rw [if_pos rfl,if_pos rfl]
  by_cases h0:(eZ f).2=0
  ·have hr:=mt h0
   rw [decide_eq_true h0,cF,al,if_pos h0,Dk hk (fun c hc=>hr.rc hc) (by have:=hr.len;omega)]
  grind [ao]
 |false=>
  rfl
def iH (f g:LC):LC×Int:=kM (meets f g)
def GH (f g:LC):LC×Int:=if eQ f&&eQ g then eO f g else ([],2)
theorem akC (hk:Fu k) {f g:LC} (hf:aw f) (hg:aw g) (h1:f.length<1073741824) (h2:g.length<1073741824) (Y:LC×Int->OS S):vS k f g Y=Y (eO f g):=by
 simp only [vS,ap hk,eo]
 rw [bA (by grind),bA (by omega),nM hk (jc hf hg) (by grind)]
 rfl
theorem aev {f g:LC} (hf: ∀c∈f,dJ c=false) (hg: ∀c∈g,dJ c=false):kM (f++g)=eO f g:=by
 grind [kM,eO,K3]
theorem BX {f g:LC} (hf:RFa f) (hg:RFa g) (h:(eO f g).2=0):RFa (eO f g).1:=
 ND (jc hf.1.2 hg.1.2) (fun c hc=>by
  rcases dk.1 hc with h|h
  ·exact hf.2 c h
  ·exact hg.2 c h) h
theorem akY (hk:Fu k) {f g:LC} (hf:aw f) (hg:aw g) (h1:f.length<268435456) (h2:g.length<268435456) (Y:LC×Int->OS S):kC k f g Y=Y (GH f g):=by
 simp only [kC,ap hk,re hk hf (show f.length<2147483648 by omega),re hk hg (show g.length<2147483648 by omega),eo]
 unfold GH
 cases hr:eQ f with
 |true=>
  rw [cF,al,hX]
  cases hr2:eQ g with
  |true=>
   have hf':=(qZ hf).1 hr
   have hg':=(qZ hg).1 hr2
   rw [cF,al,if_pos rfl,bA (by grind),bA (by omega),Dk hk (fun c hc=>by
    rcases dk.1 hc with h|h
    ·exact hf'.1.rc h
    ·exact hg'.1.rc h) (by grind),aev hf'.2 hg'.2]
  |false=>rfl
 |false=>rfl
theorem akz (hk:Fu k) {b c:Cl} (hb:bR b) (hc:bR c) (Y:Cl×Bool->OS S):Ax k b c Y=Y (g9 c b,nY (g9 c b)):=by
 simp_all [Ax,ap,IK,Tu,Cb]
theorem af7 (hk:Fu k) (Y:LC->OS S) {c:Cl} (hc:bR c) {l:LC} (hl:aw l) (hlen:l.length<2147483648):
  ∀ (r p:LC) (m:Nat) (o:LC),l=p++r->r.length<m->o.length+r.length<4294967296->sM k Y c l m (p.length:Int) o=Y (o++fQ (r.map (g9 c))):=by
 intro r
 induction r with
 |nil=>
  intro p m o h hm ho
  obtain ⟨m,rfl,hm'⟩:=aq hm
  grind [sM,y6,al,fQ]
 |cons x r ih=>
  intro p m o h hm ho
  obtain ⟨m,rfl,hm'⟩:=aq hm
  obtain ⟨e1,e2,e3,e4⟩:=aK h (by omega)
  have hx:bR x:=hl x (by grind)
  simp only [dD] at ho
  simp only [sM,y6,e1,ao,e2,aI,ap hk,akz hk hx hc,e3]
  cases hb:nY (g9 c x)<;>grind [ao,bA,fQ,al]
theorem akI (hk:Fu k) {c:Cl} (hc:bR c) {l:LC} (hl:aw l) (hlen:l.length<2147483648) (Y:LC->OS S):Av k l c Y=Y (fQ (l.map (g9 c))):=by
 simp only [Av,Jh]
 have:=af7 hk Y hc hl hlen l [] k [] rfl (by omega) (by grind)
 grind
theorem afU (hk:Fu k) (Y:LC×Int->OS S) {g f:LC} (hf:aw f) (hg:aw g) (hlf:f.length<32768) (hlg:g.length<32768):
  ∀ (r p:LC) (m:Nat) (o:LC),f=p++r->r.length<m->aw o->o.length+r.length*g.length<1073741825->sO k Y g f m (p.length:Int) o=Y (cQ (o++fQ (meets r g))):=by
 intro r
 induction r with
 |nil=>
  intro p m o h hm hok ho
  obtain ⟨m,rfl,hm'⟩:=aq hm
  grind [sO,y8,al,ap,nM,meets,fQ]
 |cons x r ih=>
  intro p m o h hm hok ho
  obtain ⟨m,rfl,hm'⟩:=aq hm
  obtain ⟨e1,e2,e3,e4⟩:=aK h (by omega)
  have hx:bR x:=hf x (by grind)
  have hmul:(x::r).length*g.length=r.length*g.length+g.length:=by grind
  rw [hmul] at ho
  have hcl:=K4 (g.map (g9 x))
  rw [List.length_map] at hcl
  simp only [sO,y8,e1,ao,e2,aI,ap hk,akI hk hx hg (show g.length<2147483648 by omega),e3]
  rw [bA (by omega),ih (p++[x]) m _ e4 hm' (jc hok fun c hc=>by
   obtain ⟨b,hb,rfl⟩:=dA.1 (Fc hc).1
   exact Cb hx (hg b hb)) (by grind)]
  grind [fQ,meets]
theorem akD (hk:Fu k) {f g:LC} (hf:aw f) (hg:aw g) (h1:f.length<32768) (h2:g.length<32768) (Y:LC×Int->OS S):rJ k f g Y=Y (iH f g):=by
 simp only [rJ,Jj]
 have hb:f.length*g.length<1073741824:=ko (Nat.mul_le_mul (Nat.le_of_lt_succ h1) (Nat.le_of_lt_succ h2)) (by decide)
 have:=afU hk Y hf hg h1 h2 f [] k [] rfl (by omega) (fun c hc=>by cases hc) (by grind)
 grind [iH,kM]
theorem agq (hk:Fu k) (Y:LC×Int->OS S) (rec0:LC->Int->OS S) {x:Cl} (hx:RC x) {g f:LC} {v:Int} (hfx:ak f v=some x) (hg: ∀c∈g,RC c) (hlen:g.length<65536):
  ∀ (r p:LC) (m:Nat) (o:LC),g=p++r->r.length<m->o.length+r.length<1099511627776->qn k Y rec0 f g v m o (p.length:Int)=rec0 (o++r.map (g9 x)) (ag .i64 (v+1)):=by
 intro r
 induction r with
 |nil=>
  intro p m o h hm ho
  obtain ⟨m,rfl,hm'⟩:=aq hm
  grind [qn,zC,al]
 |cons y r ih=>
  intro p m o h hm ho
  obtain ⟨m,rfl,hm'⟩:=aq hm
  obtain ⟨e1,e2,e3,e4⟩:=aK h (by omega)
  have hy:RC y:=hg y (by grind)
  simp only [dD] at ho
  simp only [qn,zC,e1,ao,e2,hfx,aI,ap hk,TH hk hx hy,e3]
  grind [bA]
theorem agp (hk:Fu k) (Y:LC×Int->OS S) {g f:LC} (hf: ∀c∈f,RC c) (hg: ∀c∈g,RC c) (hlf:f.length<32768) (hlg:g.length<32768):
  ∀ (r p:LC) (m:Nat) (o:LC),f=p++r->r.length<m->(∀c∈o,RC c)->o.length+r.length*g.length<1073741824->oT k Y f g m o (p.length:Int)=Y (kM (o++meets r g)):=by
 intro r
 induction r with
 |nil=>
  grind [aq,oT,u7,al,ap,Dk,meets]
 |cons x r ih=>
  intro p m o h hm hok ho
  obtain ⟨m,rfl,hm'⟩:=aq hm
  obtain ⟨e1,e2,e3,e4⟩:=aK h (by omega)
  have hx:RC x:=hf x (by grind)
  have hmul:(x::r).length*g.length=r.length*g.length+g.length:=by grind
  rw [hmul] at ho
  have hk':4294967296<=k:=hk
  simp only [oT,u7,e1,ao]
  have:=agq hk Y (oT k Y f g m) hx e2 hg (by omega) g [] k o rfl (by omega) (by omega)
  grind [Ps,meets]
theorem akZ (hk:Fu k) {f g:LC} (hf:RFa f) (hg:RFa g) (Y:LC×Int->OS S):oi k f g Y=Y (iH f g):=by
 have l1:=hf.1.len;have l2:=hg.1.len
 simp only [oi,JK,ap hk,re hk hf.1.2 hf.1.lt,re hk hg.1.2 hg.1.lt,hf.right,hg.right,cF,al]
 have hb:f.length*g.length<=64*64:=Nat.mul_le_mul l1 l2
 have:=agp hk Y (fun c hc=>hf.1.rc hc) (fun c hc=>hg.1.rc hc) (by omega) (by omega) f [] k [] rfl (by omega) (fun c hc=>by cases hc) (by grind)
 grind [iH]
theorem xL {f g:LC} (hf:aw f) (hg:aw g) (h:(iH f g).2=0):RFa (iH f g).1:=G6 (Pt hf hg) h
theorem aea {c:Cl} {i:Int} (h:dJ c=false) (hp:dF c.pos i=true):dF c.neg i=false:=by
 cases hn:dF c.neg i with
 |false=>rfl
 |true=>
  exfalso
  unfold dF at hp hn
  rw [aF] at hp hn
  unfold dJ at h
  rw [Bool.not_eq_false',decide_eq_true_eq] at h
  have:(c.pos.toNat&&&c.neg.toNat).testBit i.toNat=true:=by grind
  grind
theorem UK {s i:Int} {j:Nat} (h:(fX s i).toNat.testBit j=true):s.toNat.testBit j=true:=by
 grind [fX,gb,o0]
theorem aaE {c:Cl}:dJ c=false↔ ∀j,¬ (c.pos.toNat.testBit j=true/\c.neg.toNat.testBit j=true):=by
 unfold dJ
 rw [Bool.not_eq_false',decide_eq_true_eq]
 constructor
 ·intro h j ⟨h1,h2⟩
  have:(c.pos.toNat&&&c.neg.toNat).testBit j=true:=by grind
  grind
 ·intro h
  apply h8
  grind
theorem BS {c:Cl} {i:Int} (h:dJ c=false):dJ (ei i c)=false:=by
 rw [aaE] at h ⊢
 exact fun j ⟨h1,h2⟩=>h j ⟨UK h1,UK h2⟩
def ik (i:Int) (c:Cl) (h:LC) (q:LC×Int):LC×Int:=
 if q.2=0 then if (iH [ei i c] q.1).2=0 then eO h (iH [ei i c] q.1).1 else ([],(iH [ei i c] q.1).2) else ([],q.2)
def eL (i:Int) (r h:LC) (c:Cl):LC×Int:=
 if dF c.pos i then ik i c h (jz r) else if dF c.neg i then ik i c h (kg r) else eO h [ei i c]
def lG (f:LC) (i:Int) (r:LC):LC×Int:=if eQ f&&dj r&&ot i then dg (eL i r) [] f else ([],2)
theorem P0 {i:Int} {c:Cl} {h:LC} {q:LC×Int} (hh:RFa h) (hq:q.2=0->RFa q.1) (h0:(ik i c h q).2=0):RFa (ik i c h q).1:=by
 unfold ik at h0 ⊢
 split
 ·next h1=>
  rw [if_pos h1] at h0
  split
  ·next h2=>rw [if_pos h2] at h0;exact BX hh (xL (lL (mZ i c)).2 (hq h1).1.2 h2) h0
  grind
 grind
theorem aiM {i:Int} {r h:LC} {c:Cl} (hr:RF r) (hh:RFa h) (hc:dJ c=false) (h0:(eL i r h c).2=0):RFa (eL i r h c).1:=by
 unfold eL at h0 ⊢
 split
 ·next h1=>rw [if_pos h1] at h0;exact P0 hh (fun h=>HE h hr.2) h0
 ·next h1=>
  rw [if_neg h1] at h0
  split
  ·next h2=>rw [if_pos h2] at h0;exact P0 hh (fun h=>HF h hr.2) h0
  grind [BX,Da,mZ,BS]
theorem adU {i:Int} {r:LC} (hr:RF r): ∀ {l h:LC},(∀c∈l,dJ c=false)->RFa h->(dg (eL i r) h l).2=0->RFa (dg (eL i r) h l).1:=by
 intro l
 induction l<;>grind [dg,aiM]
theorem aiP {f r:LC} {i:Int} (hf:aw f) (hr:aw r) (h:(lG f i r).2=0):RFa (lG f i r).1:=by
 unfold lG at h ⊢
 split
 ·next hc=>
  rw [if_pos hc] at h
  simp only [aF] at hc
  exact adU ((jC hr).1 hc.1.2) ((qZ hf).1 hc.1.1).2 Iy h
 grind
theorem faJ (hk:Fu k) (Y:LC×Int->OS S) (rec0:Int->LC->OS S) (i:Int) (r f:LC) {h:LC} {v:Int} {g:LC} {e:Int} (hh:RF h) (hg:e=0->RF g):
  sL k Y rec0 i r f v h k g e=if e=0 then if (eO h g).2=0 then rec0 (ag .i64 (v+1)) (eO h g).1 else Y ([],(eO h g).2) else Y ([],e):=by
 obtain ⟨q,hq⟩: ∃q,k=q+1:=⟨k-1,by omega⟩
 have: ∀j,j=q+1->sL k Y rec0 i r f v h j g e=yZ k Y i r f v h rec0 g e:=by rintro j rfl;rfl
 rw [this k hq]
 simp only [yZ,dx]
 by_cases h0:e=0
 ·have l1:=hh.len;have l2:=(hg h0).len
  rw [decide_eq_true h0,ao,if_pos h0,ap hk,akC hk hh.2 (hg h0).2 (by omega) (by omega)]
  grind [al,ao]
 grind [al,ao]
theorem afV (hk:Fu k) (Y:LC×Int->OS S) {i:Int} {q:LC} (hq:RF q) {l:LC} (hl:aw l) (hc: ∀c∈l,dJ c=false) (hlen:l.length<2147483648):
  ∀ (r p:LC) (m:Nat) (h:LC),l=p++r->r.length<m->RFa h->oN k Y i q l m (p.length:Int) h=Y (dg (eL i q) h r):=by
 intro r
 induction r with
 |nil=>
  intro p m h e hm hh
  obtain ⟨m,rfl,hm'⟩:=aq hm
  simp only [oN,uU,d2 e,al];rfl
 |cons x r ih=>
  intro p m h e hm hh
  obtain ⟨m,rfl,hm'⟩:=aq hm
  obtain ⟨e1,e2,e3,e4⟩:=aK e (by omega)
  have hx:bR x:=hl x (by grind)
  have hxc:dJ x=false:=hc x (by grind)
  have hg:=Da (mZ i x) (BS hxc)
  have key: ∀ (g:LC) (e:Int),(e=0->RFa g)->(eL i q h x=if e=0 then eO h g else ([],e))->sL k Y (oN k Y i q l m) i q l (p.length:Int) h k g e=Y (dg (eL i q) h (x::r)):=by
   intro g e hge hput
   rw [faJ hk _ _ _ _ _ hh.1 (fun h=>(hge h).1),dg,hput]
   grind [BX]
  have em: ∀ (s:LC),RF s-> ∀ (f:LC×Int->OS S),rJ k [Cl.mk (fX x.pos i) (fX x.neg i)] s f=f (iH [ei i x] s):=fun s hs f=>akD hk hg.1.2 hs.2 (by simp) (by have:=hs.len;omega) f
  simp only [oN,uU,e1,ao,e2,aI,ap hk,yr hk hx.1,yr hk hx.2,ul hk hx.1,ul hk hx.2,Tv hk hq.2 hq.lt,akA hk hq.2 hq.lt,dx]
  cases hp:dF x.pos i with
  |true=>
   rw [ao]
   by_cases h1:(jz q).2=0
   ·have ho:=HE h1 hq.2
    rw [decide_eq_true h1,ao,em _ ho.1]
    exact key _ _ (fun h0=>xL hg.1.2 ho.1.2 h0) (by grind [eL,ik])
   grind [al,eL,ik]
  |false=>
   rw [al]
   cases hn:dF x.neg i with
   |true=>
    rw [ao]
    by_cases h1:(kg q).2=0
    ·have ho:=HF h1 hq.2
     rw [decide_eq_true h1,ao,em _ ho.1]
     exact key _ _ (fun h0=>xL hg.1.2 ho.1.2 h0) (by grind [eL,ik])
    grind [al,eL,ik]
   |false=>
    grind [al,ei,eL]
theorem akB (hk:Fu k) {f r:LC} {i:Int} (hf:aw f) (hr:aw r) (h1:f.length<2147483648) (h2:r.length<2147483648) (Y:LC×Int->OS S):Au k f i r Y=Y (lG f i r):=by
 simp only [Au,Jg,ap hk,IM hk hf h1,aku hk,um hk hr h2]
 unfold lG ot
 cases ha:eQ f with
 |false=>rfl
 |true=>
  rw [cF,al]
  by_cases hd:0<=i/\i<24
  ·rw [decide_eq_true hd,cF,al]
   cases hb:dj r with
   |false=>rfl
   |true=>
    rw [cF,al]
    exact afV hk Y ((jC hr).1 hb) hf ((qZ hf).1 ha).2 h1 f [] k [] rfl (by omega) Iy
  grind [ao]
theorem ahH {i:Int} {c:Cl} (h:dJ c=false):iH [ei i c] [⟨0,0⟩]=([ei i c],0):=by
 have e:meets [ei i c] [⟨0,0⟩]=[ei i c]:=by
  grind [ei,Kw,g9,ij,Int.toNat_of_nonneg,meets]
 unfold iH kM
 rw [e,K3 fun d hd=>by grind [BS]]
 exact (lL (mZ i c)).1
theorem agr (hk:Fu k) (Y:LC×Int->OS S) {i:Int} {q:LC} (hq:RF q) {l:LC} (hl:aw l) (hc: ∀c∈l,dJ c=false) (hlen:l.length<2147483648):
  ∀ (r p:LC) (m:Nat) (h:LC),l=p++r->r.length<m->RFa h->qr k Y l i q m h (p.length:Int)=Y (dg (eL i q) h r):=by
 intro r
 induction r with
 |nil=>
  intro p m h e hm hh
  obtain ⟨m,rfl,hm'⟩:=aq hm
  simp only [qr,zD,d2 e,al];rfl
 |cons x r ih=>
  intro p m h e hm hh
  obtain ⟨m,rfl,hm'⟩:=aq hm
  obtain ⟨e1,e2,e3,e4⟩:=aK e (by omega)
  have hx:bR x:=hl x (by grind)
  have hxc:dJ x=false:=hc x (by grind)
  have hg:=Da (mZ i x) (BS hxc)
  have lh:=hh.1.len
  have em: ∀ (s:LC),RFa s-> ∀ (f:LC×Int->OS S),oi k [Cl.mk (fX x.pos i) (fX x.neg i)] s f=f (iH [ei i x] s):=fun s hs f=>akZ hk hg hs f
  have ej: ∀ (s:LC),RFa s-> ∀ (f:LC×Int->OS S),kC k h s f=f (eO h s):=fun s hs f=>by
   have ls:=hs.1.len
   rw [akY hk hh.1.2 hs.1.2 (by omega) (by omega)]
   unfold GH
   rw [hh.right,hs.right];rfl
  have key: ∀ (g:LC),RFa g->eL i q h x=eO h g->(kC k h g fun r10=>ac (!decide (r10.2=0)) (Y ([],r10.2)) (qr k Y l i q m r10.1 ((p++[x]).length:Int)))=Y (dg (eL i q) h (x::r)):=by
   grind [dg,al,BX,ao]
  have bad: ∀ (e:Int),e≠0->eL i q h x=([],e)->Y ([],e)=Y (dg (eL i q) h (x::r)):=by
   grind [dg]
  simp only [qr,zD,e1,ao,e2,aI,ap hk,Dp hk hx.1,Dp hk hx.2,lM hk hx.1,lM hk hx.2,ak0 hk hq.2 (show q.length<1073741824 by have:=hq.len;omega),ak1 hk hq.2 hq.lt,dx,e3]
  cases hp:dF x.pos i with
  |true=>
   rw [ao,aea hxc hp,al]
   by_cases h1:(jz q).2=0
   ·have ho:=HE h1 hq.2
    rw [decide_eq_true h1,ao,em _ ho]
    by_cases h2:(iH [ei i x] (jz q).1).2=0
    ·rw [decide_eq_true h2,ao]
     exact key _ (xL hg.1.2 ho.1.2 h2) (by grind [eL,ik])
    grind [al,ao,eL,ik]
   grind [al,ao,eL,ik]
  |false=>
   rw [al]
   cases hn:dF x.neg i with
   |true=>
    rw [ao]
    by_cases h1:(kg q).2=0
    ·have ho:=HF h1 hq.2
     rw [decide_eq_true h1,ao,em _ ho]
     by_cases h2:(iH [ei i x] (kg q).1).2=0
     ·rw [decide_eq_true h2,ao]
      exact key _ (xL hg.1.2 ho.1.2 h2) (by grind [eL,ik])
     grind [al,ao,eL,ik]
    grind [al,ao,eL,ik]
   |false=>
    rw [al,em _ (Da qY (by decide)),ahH hxc]
    grind [ao,eL]
theorem ak2 (hk:Fu k) {f r:LC} {i:Int} (hf:aw f) (hr:aw r) (h1:f.length<2147483648) (h2:r.length<2147483648) (Y:LC×Int->OS S):AZ k f i r Y=Y (lG f i r):=by
 simp only [AZ,JL,ap hk,re hk hf h1,kQ hk hr h2,bS]
 unfold lG ot
 cases ha:eQ f with
 |false=>rfl
 |true=>
  rw [cF,al]
  by_cases h3:i<0
  ·grind
  ·by_cases h4:i>=24
   ·grind
   ·rw [if_neg h3,if_neg h4,decide_eq_true (by omega)]
    cases hb:dj r with
    |false=>rfl
    |true=>
     rw [cF,al]
     exact agr hk Y ((jC hr).1 hb) hf ((qZ hf).1 ha).2 h1 f [] k [] rfl (by omega) Iy
end Go.Proofs.YtgajalidbabccaaGreatDoor
namespace Go.Proofs.YtgajalidbabccaaGreatDoor
open Go PI
mutual
def aL:Tm->Nat
 | .mk _ _ _ _ ks sys=>1+aN ks+aS sys
def aN:LT->Nat
 |[]=>0
 |t::l=>aL t+aN l
def aS:LB->Nat
 |[]=>0
 |b::l=>jD b+aS l
def jD:Br Tm->Nat
 | .mk _ ks=>aN ks
end
mutual
def ax:Tm->Nat
 | .mk _ _ _ _ ks sys=>max (bu ks) (bU sys)+1
def bu:LT->Nat
 |[]=>0
 |t::l=>max (ax t) (bu l)
def bU:LB->Nat
 |[]=>0
 |b::l=>max (mf b) (bU l)
def mf:Br Tm->Nat
 | .mk _ ks=>bu ks
end
theorem uo (b:Br Tm):jD b=aN b.kids:=by cases b;rw [jD]
theorem wE (b:Br Tm):mf b=bu b.kids:=by cases b;rw [mf]
theorem uq (t:Tm):1<=aL t:=by cases t;rw [aL];omega
theorem rg: ∀ {l:LT} {x:Tm},x∈l->aL x<=aN l:=by
 intro l
 induction l<;>grind [aN]
theorem Dr: ∀ {l:LB} {b:Br Tm},b∈l->aN b.kids<=aS l:=by
 intro l
 induction l<;>grind [aS,uo]
theorem FV: ∀ {l:LT} {x:Tm},x∈l->ax x<=bu l:=by
 intro l
 induction l<;>grind [bu]
theorem LQ: ∀ {l:LB} {b:Br Tm},b∈l->bu b.kids<=bU l:=by
 intro l
 induction l<;>grind [bU,wE]
theorem mB {Q:Tm->Prop} (h: ∀kd n nm r ks sys,(∀x∈ks,Q x)->(∀b∈sys,∀x∈b.kids,Q x)->Q (.mk kd n nm r ks sys)) (t:Tm):Q t:=by
 have: ∀m t,aL t<=m->Q t:=by
  intro m
  induction m with
  |zero=>grind [uq]
  |succ m ih=>
   intro t ht
   cases t with
   |mk kd n nm r ks sys=>
    rw [aL] at ht
    refine h _ _ _ _ _ _ (fun x hx=>ih x ?_) fun b hb x hx=>ih x ?_
    ·have:=rg hx;omega
    ·have:=Dr hb;have:=rg hx;omega
 exact this _ t (dv _)
def kidsT:List Int:=[-1,0,0,0,2,1,2,2,2,1,1,3,1,3,2,2,1,1,1,0,0,0,4,1,0,0,1,5,2]
def gS (kd:Int):Int:=if kd<0\/kd>28 then-1 else kidsT.getD kd.toNat 0
def fj (kd i:Int):Int:=if (i=1/\(kd=4\/kd=7))\/(i=0/\(kd=5\/kd=22\/kd=27)) then 1 else 0
def dR (kd i:Int):Int:=if i=0/\(kd=11\/kd=12\/kd=14) then 1 else 0
def eB (kd:Int):Int:=if kd=16 then 2 else if kd=15\/kd=17\/kd=18 then 1 else 0
def aM (kd:Int):Int:=if kd=15 then 1 else 0
theorem vE (kd i:Int):0<=fj kd i/\fj kd i<=1:=by grind [fj]
theorem mP (kd i:Int):0<=dR kd i/\dR kd i<=1:=by grind [dR]
theorem iJ (kd:Int):0<=aM kd/\aM kd<=1:=by grind [aM]
def nr (c:UInt8):Bool:=(decide (97<=c.toNat)&&decide (c.toNat<=122))||(decide (65<=c.toNat)&&decide (c.toNat<=90))||decide (c.toNat=95)
def sh (c:UInt8):Bool:=decide (48<=c.toNat)&&decide (c.toNat<=57)
def qJ:List UInt8->Bool
 |[]=>false
 |c::l=>nr c&&l.all fun d=>nr d||sh d
def dS (kd dims:Int) (b:Br Tm):Bool:=decide ((b.kids.length:Int)=eB kd)&&(eQ b.face&&eP b.face dims)
def fE (vars dims:Int):Tm->Bool
 | .mk kd n nm r ks sys=>
  (decide (gS kd=ks.length)&&(decide (kd=1\/n=0)&&(decide (kd=2\/nm.size=0)&&decide (eB kd=0->sys.length=0))))&&
  (if kd=1 then decide (r.length=0)&&(decide (0<=n)&&decide (vars<0\/n<vars))
   else if kd=2 then decide (r.length=0)&&qJ nm.data.toList
   else if kd=13\/kd=21\/kd=26 then dj r&&eP r dims
   else if kd=14 then eQ r&&eP r dims
   else sys.all (dS kd dims)&&decide (r.length=0))
def eH (vars v:Int):Int:=if vars<0 then vars else vars+v
mutual
def cm (bd:Bool) (vars dims:Int):Tm->Bool
 | .mk kd n nm r ks sys=> !(bd&&decide (dims>24))&&(fE vars dims (.mk kd n nm r ks sys)&&(dL bd vars dims kd 0 ks&&er bd vars dims kd sys))
def dL (bd:Bool) (vars dims kd:Int) (i:Nat):LT->Bool
 |[]=>true
 |t::l=>cm bd (eH vars (fj kd i)) (dims+dR kd i) t&&dL bd vars dims kd (i+1) l
def er (bd:Bool) (vars dims kd:Int):LB->Bool
 |[]=>true
 |b::l=>nU bd vars dims kd b&&er bd vars dims kd l
def nU (bd:Bool) (vars dims kd:Int):Br Tm->Bool
 | .mk _ ks=>ep bd vars dims kd ks
def ep (bd:Bool) (vars dims kd:Int):LT->Bool
 |[]=>true
 |t::l=>cm bd vars (dims+aM kd) t&&ep bd vars dims kd l
end
def dn (t:Tm):Int:=if ax t>200 then 62 else if aL t>20000 then 221 else if cm false (-1) 24 t then 0 else 100
mutual
def OkT:Tm->Prop
 | .mk kd n nm r ks sys=>(aQ kd/\aQ n/\nm.size<1073741824/\aw r/\r.length<1073741824/\ks.length<1073741824/\sys.length<1073741824)/\cR ks/\cG sys
def cR:LT->Prop
 |[]=>True
 |t::l=>OkT t/\cR l
def cG:LB->Prop
 |[]=>True
 |b::l=>kY b/\cG l
def kY:Br Tm->Prop
 | .mk f ks=>(aw f/\f.length<1073741824/\ks.length<1073741824)/\cR ks
end
theorem okK_iff: ∀ {l:LT},cR l↔ ∀t∈l,OkT t:=by
 intro l
 induction l<;>grind [cR]
theorem qL {b:Br Tm}:kY b↔(aw b.face/\b.face.length<1073741824/\b.kids.length<1073741824)/\ ∀t∈b.kids,OkT t:=by
 cases b;rw [kY,okK_iff]
theorem PK: ∀ {l:LB},cG l↔ ∀b∈l,(aw b.face/\b.face.length<1073741824/\b.kids.length<1073741824)/\ ∀t∈b.kids,OkT t:=by
 intro l
 induction l<;>grind [cG,qL]
theorem OkT.node {kd n nm r ks sys} (h:OkT (.mk kd n nm r ks sys)):aQ kd/\aQ n/\nm.size<1073741824/\aw r/\r.length<1073741824/\ks.length<1073741824/\sys.length<1073741824:=by grind [OkT]
theorem OkT.kid {kd n nm r ks sys x} (h:OkT (.mk kd n nm r ks sys)) (hx:x∈ks):OkT x:=by grind [OkT,okK_iff]
theorem OkT.br {kd n nm r ks sys b} (h:OkT (.mk kd n nm r ks sys)) (hb:b∈sys):(aw b.face/\b.face.length<1073741824/\b.kids.length<1073741824)/\ ∀t∈b.kids,OkT t:=by grind [OkT,PK]
theorem Z7 {bd:Bool} {vars dims kd:Int}: ∀ {l:LT},ep bd vars dims kd l=l.all (cm bd vars (dims+aM kd)):=by
 intro l
 induction l<;>grind [ep]
theorem yL {bd:Bool} {vars dims kd:Int}: ∀ {l:LB},er bd vars dims kd l=l.all fun b=>b.kids.all (cm bd vars (dims+aM kd)):=by
 intro l
 induction l with
 |nil=>rfl
 |cons b l ih=>cases b;simp_all [er,nU,Z7]
set_option maxRecDepth 100000
section
variable {H:Type} {enc:TypeId×Value->H} {w:World} {base:Nat} {spare:Nat->Bool} {held:Bool} {o:Obj} {N:aR} {g:Gh UU}
noncomputable abbrev mD (enc:TypeId×Value->H) (w:World) (base:Nat) (spare:Nat->Bool) (held:Bool):=DataW.trod enc Tryz.prog w base spare held
def rm (o:Obj) (w:World) (N:aR) (g:Gh UU) (e:ET) (x:EL e) (cs:List Value):Prop:= ∀ (k:Nat) (p:PU),(gD e x)[k]? =some p-> ∃v,cs[k]? =some v/\Rep (LL o) w N g v p
theorem Fb {l:List (DataW H)}:l.length<=Rows.uptoBulkAll l:=by
 induction l with
 |nil=>simp [Rows.uptoBulkAll]
 |cons x r ih=>
  have:1<=Rows.uptoBulk x:=by
   cases x with
   |lit l=>cases l<;>simp [Rows.uptoBulk]
   |_=>simp [Rows.uptoBulk]
  simp only [Rows.uptoBulkAll,dD];omega
theorem build {α β:Type} {R:Nat->β->α->Prop}: ∀ (elems:List β) (s:Nat),(∀i d,elems[i]? =some d-> ∃x,R (s+i) d x)-> ∃l:List α,l.length=elems.length/\ ∀i d,elems[i]? =some d-> ∃x,l[i]? =some x/\R (s+i) d x:=by
 intro elems
 induction elems with
 |nil=>intro s h;exact ⟨[],rfl,fun i d h=>by simp at h⟩
 |cons d r ih=>
  intro s h
  obtain ⟨x,hx⟩:=h 0 d rfl
  obtain ⟨l,hl,hr⟩:=ih (s+1) fun i d' hd=>by
   obtain ⟨x,hx⟩:=h (i+1) d' (by simpa using hd)
   exact ⟨x,by rw [show s+1+i=s+(i+1) by omega];exact hx⟩
  refine ⟨x::l,by simp [hl],fun i d' hd=> ?_⟩
  cases i with
  |zero=>injection hd with hd;subst hd;exact ⟨x,rfl,hx⟩
  |succ i=>
   obtain ⟨y,hy,hr⟩:=hr i d' (by simpa using hd)
   exact ⟨y,by simpa using hy,by rw [show s+(i+1)=s+1+i by omega];exact hr⟩
theorem HH (hN: ∀b o,¬N b o) {e:ET} {tS tE:TypeId} (ht:Tryz.prog.underlying tS=some (.slice tE)) (hc:Tryz.prog.cellsOf tE=sx e) {Q:EL e->DataW H->Prop} {n:Nat} {cs:List Value} {d:DataW H} {pl:List MemPlace}
  (hel: ∀ (cs:List Value) (d:DataW H) (pl:List MemPlace),mD enc w base spare held n tE cs=some (d,pl)-> ∃x:EL e,rm o w N g e x cs/\Q x d) (h:mD enc w base spare held (n+1) tS cs=some (d,pl)):
  ∃ (v:Value) (l:List (EL e)) (ds:List (DataW H)),cs=[v]/\Rep (LL o) w N g v (.sl (U:=UU) e l .none)/\l.length=ds.length/\(∀ (i:Nat) (x:EL e) (y:DataW H),l[i]? =some x->ds[i]? =some y->Q x y)/\Rows.uptoBulkAll ds+1<=Rows.uptoBulk d:=by
 rcases DataW.trod_slice ht h with ⟨rfl,hx⟩|⟨a,len,cap,elems,rest,m,hm,rfl,hx,hb,hl,hcp,hlen,hee,_,_⟩
 ·injection hx with hx _
  subst hx
  exact ⟨_,[],[],rfl,Rep.sl (X:=LL o) (N:=N) (g:=g) none 0 0 e (show List (EL e) from []) .none (fun _ _=>undef) rfl (dv _) trivial (fun j x hx=>by cases hx) (fun j x hx=>by cases hx),rfl,fun i x y h=>by simp at h,by simp [Rows.uptoBulkAll,Rows.uptoBulk]⟩
 ·obtain rfl:n=m:=by omega
  injection hx with hx _
  subst hx
  obtain ⟨l,hll,hlr⟩:=build (R:=fun i (y:DataW H×List MemPlace) (x:EL e)=> ∃cs',w.cells? base (a.add (i*Tryz.prog.cellsOf tE)) (Tryz.prog.cellsOf tE)=some cs'/\rm o w N g e x cs'/\Q x y.1) elems 0 fun i y hy=>by
   have hi:i<len:=by rw [<-hlen];exact (cD.1 hy).1
   have:=hee i hi
   rw [hy] at this
   obtain ⟨cs',h1,h2⟩:=Option.bind_eq_some_iff.1 this
   obtain ⟨x,hx1,hx2⟩:=hel cs' y.1 y.2 h2
   exact ⟨x,cs',by simpa using h1,hx1,hx2⟩
  have hget: ∀ (j:Nat) (x:EL e),l[j]? =some x-> ∃ (y:DataW H×List MemPlace) (cs':List Value),elems[j]? =some y/\w.cells? base (a.add (j*Tryz.prog.cellsOf tE)) (Tryz.prog.cellsOf tE)=some cs'/\rm o w N g e x cs'/\Q x y.1:=fun j x hx=>by
   have hj:j<elems.length:=by rw [<-hll];exact (cD.1 hx).1
   obtain ⟨x',hx',cs',h1,h2,h3⟩:=hlr j _ (dm hj)
   rw [hx] at hx'
   injection hx' with hx'
   subst hx'
   exact ⟨_,cs',dm hj,by simpa using h1,h2,h3⟩
  have hcell: ∀ (j:Nat) (x:EL e),l[j]? =some x-> ∀ (k:Nat) (p:PU),(gD e x)[k]? =some p-> ∃v,w.cell? (a.add (j*(LL o).esize e+k))=some v/\Rep (LL o) w N g v p:=fun j x hx k p hp=>by
   obtain ⟨y,cs',_,h1,h2,_⟩:=hget j x hx
   obtain ⟨v,hv,hr⟩:=h2 k p hp
   obtain ⟨_,hl',hcs⟩:=World.cells?_some h1
   have hk:k<Tryz.prog.cellsOf tE:=by rw [<-hl'];exact (cD.1 hv).1
   have:=hcs k hk
   rw [hv,Go.Deep.add_add,hc] at this
   exact ⟨v,this,hr⟩
  refine ⟨_,l,elems.map (·.1),rfl,Rep.sl (X:=LL o) (some a) len cap e l .none (fun j k=>(w.cell? (a.add (j*(LL o).esize e+k))).getD undef) (by rw [<-hlen];exact hll) hl trivial (fun j x hx k p hp=> ?_) (fun j x hx k p hp=> ?_),by simpa using hll,fun i x y hx hy=> ?_,by simp [Rows.uptoBulk]⟩
  ·obtain ⟨v,hv,_⟩:=hcell j x hx k p hp
   exact ⟨a,rfl,by simp [hv],hN _ _⟩
  ·obtain ⟨v,hv,hr⟩:=hcell j x hx k p hp
   simp only [hv];exact hr
  ·obtain ⟨y',cs',h1,_,_,h3⟩:=hget i x hx
   have:y=y'.1:=by
    rw [ir,h1] at hy
    injection hy with hy;exact hy.symm
   subst this
   exact h3
theorem PM {n:Nat} {cs:List Value} {d:DataW H} {pl:List MemPlace} (h:mD enc w base spare held n 3 cs=some (d,pl)): ∃z,cs=[.int .i64 z]/\aQ z:=by
 obtain ⟨z,rfl,_,hw⟩:=DataW.trod_int Tryz.underlying3 h
 refine ⟨z,rfl, ?_⟩
 simp [Lit.wf,IntKind.has] at hw
 have h1:IntKind.i64.min= -9223372036854775808:=rfl
 have h2:IntKind.i64.max=9223372036854775807:=rfl
 unfold aQ
 omega
theorem PN {n:Nat} {cs:List Value} {d:DataW H} {pl:List MemPlace} (h:mD enc w base spare held n 51 cs=some (d,pl)): ∃z,cs=[.int .u32 z]/\U32 z:=by
 obtain ⟨z,rfl,_,hw⟩:=DataW.trod_int Tryz.underlying51 h
 refine ⟨z,rfl, ?_⟩
 simp [Lit.wf,IntKind.has] at hw
 have h1:IntKind.u32.min=0:=rfl
 have h2:IntKind.u32.max=4294967295:=rfl
 unfold U32
 omega
def QC (c:Cl) (d:DataW H):Prop:=bR c
def QT (t:Tm) (d:DataW H):Prop:=aL t<=Rows.uptoBulk d/\(Rows.uptoBulk d<1073741824->OkT t)
def QB (b:Br Tm) (d:DataW H):Prop:=jD b<=Rows.uptoBulk d/\(Rows.uptoBulk d<1073741824->(aw b.face/\b.face.length<1073741824/\b.kids.length<1073741824)/\ ∀t∈b.kids,OkT t)
theorem aix {n:Nat} {cs:List Value} {d:DataW H} {pl:List MemPlace} (h:mD enc w base spare held n 53 cs=some (d,pl)): ∃x:EL ET.C,rm o w N g ET.C x cs/\QC (show Cl from x) d:=by
 obtain ⟨xs,m,rfl,_,hl,hlen,hf⟩:=DataW.trod_struct Tryz.underlying53 h
 have hl2:cs.length=2:=hl.trans (by kernel_rfl)
 match cs,hl2,xs,hlen with
 |[a,b],_,[y0,y1],_=>
 have h0:=hf 0 _ rfl
 have h1:=hf 1 _ rfl
 have c51:Tryz.prog.cellsOf 51=1:=by kernel_rfl
 simp [c51] at h0 h1
 obtain ⟨z0,e0,k0⟩:=PN h0
 obtain ⟨z1,e1,k1⟩:=PN h1
 obtain rfl:a= .int .u32 z0:=by simpa using e0
 obtain rfl:b= .int .u32 z1:=by simpa using e1
 refine ⟨(⟨z0,z1⟩:Cl),fun k p hp=> ?_,⟨k0,k1⟩⟩
 match k,hp with
 |0,hp=>cases hp;exact ⟨_,rfl,.int _ _⟩
 |1,hp=>cases hp;exact ⟨_,rfl,.int _ _⟩
 |k+2,hp=>simp [gD] at hp
theorem alW {l:List Tm} {ds:List (DataW H)} (hl:l.length=ds.length) (h: ∀ (i:Nat) (x:Tm) (y:DataW H),l[i]? =some x->ds[i]? =some y->QT x y):aN l<=Rows.uptoBulkAll ds/\(Rows.uptoBulkAll ds<1073741824-> ∀t∈l,OkT t):=by
 induction l generalizing ds with
 |nil=>rw [aN];exact ⟨Nat.zero_le _,fun _ t ht=>by cases ht⟩
 |cons t l ih=>
  cases ds with
  |nil=>cases hl
  |cons d ds=>
   obtain ⟨h1,h2⟩:=h 0 t d rfl rfl
   obtain ⟨i1,i2⟩:=ih (ds:=ds) (by simpa using hl) fun i x y hx hy=>h (i+1) x y (by simpa using hx) (by simpa using hy)
   rw [aN,Rows.uptoBulkAll]
   refine ⟨by omega,fun hb u hu=> ?_⟩
   rcases d7.1 hu with rfl|hu
   ·exact h2 (by omega)
   ·exact i2 (by omega) u hu
theorem alX {l:List (Br Tm)} {ds:List (DataW H)} (hl:l.length=ds.length) (h: ∀ (i:Nat) (x:Br Tm) (y:DataW H),l[i]? =some x->ds[i]? =some y->QB x y):aS l<=Rows.uptoBulkAll ds/\(Rows.uptoBulkAll ds<1073741824->cG l):=by
 induction l generalizing ds with
 |nil=>rw [aS,cG];exact ⟨Nat.zero_le _,fun _=>trivial⟩
 |cons t l ih=>
  cases ds with
  |nil=>cases hl
  |cons d ds=>
   obtain ⟨h1,h2⟩:=h 0 t d rfl rfl
   obtain ⟨i1,i2⟩:=ih (ds:=ds) (by simpa using hl) fun i x y hx hy=>h (i+1) x y (by simpa using hx) (by simpa using hy)
   rw [aS,Rows.uptoBulkAll,cG,qL]
   exact ⟨by omega,fun hb=>⟨h2 (by omega),i2 (by omega)⟩⟩
theorem PL (hN: ∀b o,¬N b o) {n:Nat} {cs:List Value} {d:DataW H} {pl:List MemPlace} (h:mD enc w base spare held n 22 cs=some (d,pl)):
  ∃ (v:Value) (l:List Cl),cs=[v]/\Rep (LL o) w N g v (dP l .none)/\aw l/\l.length+1<=Rows.uptoBulk d:=by
 cases n with
 |zero=>cases h
 |succ n=>
  obtain ⟨v,l,ds,rfl,hr,hl,hq,hb⟩:=HH (e:=ET.C) (Q:=fun x d=>QC (show Cl from x) d) hN Tryz.underlying22 (by kernel_rfl) (fun cs d pl h=>aix h) h
  refine ⟨v,l,rfl,hr,fun c hc=> ?_, ?_⟩
  ·obtain ⟨i,hi⟩:=List.getElem?_of_mem hc
   have hlt:i<ds.length:=by rw [<-hl];exact (cD.1 hi).1
   exact hq i c _ hi (dm hlt)
  ·have:=Fb (l:=ds)
   have hl': @g4 Cl l=ds.length:=hl
   omega
theorem aiw (hN: ∀b o,¬N b o): ∀ (n:Nat),
  (∀ (cs:List Value) (d:DataW H) (pl:List MemPlace),mD enc w base spare held n 26 cs=some (d,pl)-> ∃x:EL ET.T,rm o w N g ET.T x cs/\QT (show Tm from x) d)/\
  (∀ (cs:List Value) (d:DataW H) (pl:List MemPlace),mD enc w base spare held n 48 cs=some (d,pl)-> ∃x:EL ET.B,rm o w N g ET.B x cs/\QB (show Br Tm from x) d)/\
  (∀ (cs:List Value) (d:DataW H) (pl:List MemPlace),mD enc w base spare held n 23 cs=some (d,pl)-> ∃ (v:Value) (l:List Tm),cs=[v]/\Rep (LL o) w N g v (hU l .none)/\aN l+1<=Rows.uptoBulk d/\l.length+1<=Rows.uptoBulk d/\(Rows.uptoBulk d<1073741824-> ∀t∈l,OkT t))/\
  (∀ (cs:List Value) (d:DataW H) (pl:List MemPlace),mD enc w base spare held n 24 cs=some (d,pl)-> ∃ (v:Value) (l:List (Br Tm)),cs=[v]/\Rep (LL o) w N g v (eS l .none)/\aS l+1<=Rows.uptoBulk d/\l.length+1<=Rows.uptoBulk d/\(Rows.uptoBulk d<1073741824->cG l)):=by
 intro n
 induction n with
 |zero=>exact ⟨fun cs d pl h=>(by cases h),fun cs d pl h=>(by cases h),fun cs d pl h=>(by cases h),fun cs d pl h=>(by cases h)⟩
 |succ n ih=>
 obtain ⟨iT,iB,iK,iS⟩:=ih
 have c3:Tryz.prog.cellsOf 3=1:=by kernel_rfl
 have c9:Tryz.prog.cellsOf 9=1:=by kernel_rfl
 have c22:Tryz.prog.cellsOf 22=1:=by kernel_rfl
 have c23:Tryz.prog.cellsOf 23=1:=by kernel_rfl
 have c24:Tryz.prog.cellsOf 24=1:=by kernel_rfl
 refine ⟨fun cs d pl h=> ?_,fun cs d pl h=> ?_,fun cs d pl h=> ?_,fun cs d pl h=> ?_⟩
 ·obtain ⟨xs,m,hm,hx,hl,hlen,hf⟩:=DataW.trod_struct Tryz.underlying26 h
  obtain rfl:n=m:=by omega
  injection hx with hx _
  subst hx
  have hl6:cs.length=6:=hl.trans (by kernel_rfl)
  match cs,hl6,xs,hlen with
  |[a0,a1,a2,a3,a4,a5],_,[y0,y1,y2,y3,y4,y5],_=>
  have h0:=hf 0 _ rfl
  have h1:=hf 1 _ rfl
  have h2:=hf 2 _ rfl
  have h3:=hf 3 _ rfl
  have h4:=hf 4 _ rfl
  have h5:=hf 5 _ rfl
  simp [c3,c9,c22,c23,c24] at h0 h1 h2 h3 h4 h5
  obtain ⟨z0,e0,k0⟩:=PM h0
  obtain ⟨z1,e1,k1⟩:=PM h1
  obtain ⟨s,e2,k2,_⟩:=DataW.trod_string Tryz.underlying9 h2
  obtain ⟨v3,l3,e3,r3,k3,m3⟩:=PL (o:=o) (g:=g) hN h3
  obtain ⟨v4,l4,e4,r4,k4,m4,q4⟩:=iK _ _ _ h4
  obtain ⟨v5,l5,e5,r5,k5,m5,q5⟩:=iS _ _ _ h5
  obtain rfl:a0= .int .i64 z0:=by simpa using e0
  obtain rfl:a1= .int .i64 z1:=by simpa using e1
  obtain rfl:a2= .string s:=by simpa using e2
  obtain rfl:a3=v3:=by simpa using e3
  obtain rfl:a4=v4:=by simpa using e4
  obtain rfl:a5=v5:=by simpa using e5
  have hs:s.size<Rows.uptoBulk y2.1:=by
   rw [k2]
   simp [Rows.uptoBulk]
  refine ⟨Tm.mk z0 z1 s l3 l4 l5,fun k p hp=> ?_, ?_,fun hb=> ?_⟩
  ·match k,hp with
   |0,hp=>cases hp;exact ⟨_,rfl,.int _ _⟩
   |1,hp=>cases hp;exact ⟨_,rfl,.int _ _⟩
   |2,hp=>cases hp;exact ⟨_,rfl,.str _⟩
   |3,hp=>cases hp;exact ⟨_,rfl,r3⟩
   |4,hp=>cases hp;exact ⟨_,rfl,r4⟩
   |5,hp=>cases hp;exact ⟨_,rfl,r5⟩
   |k+6,hp=>simp [gD] at hp
  ·show aL _<=_
   rw [aL]
   simp only [fG,List.map_nil,Rows.uptoBulk,Rows.uptoBulkAll]
   omega
  ·simp only [fG,List.map_nil,Rows.uptoBulk,Rows.uptoBulkAll] at hb
   show OkT _
   rw [OkT,okK_iff]
   exact ⟨⟨k0,k1,by omega,k3,by omega,by omega,by omega⟩,q4 (by omega),q5 (by omega)⟩
 ·obtain ⟨xs,m,hm,hx,hl,hlen,hf⟩:=DataW.trod_struct Tryz.underlying48 h
  obtain rfl:n=m:=by omega
  injection hx with hx _
  subst hx
  have hl2:cs.length=2:=hl.trans (by kernel_rfl)
  match cs,hl2,xs,hlen with
  |[a0,a1],_,[y0,y1],_=>
  have h0:=hf 0 _ rfl
  have h1:=hf 1 _ rfl
  simp [c22,c23] at h0 h1
  obtain ⟨v3,l3,e3,r3,k3,m3⟩:=PL (o:=o) (g:=g) hN h0
  obtain ⟨v4,l4,e4,r4,k4,m4,q4⟩:=iK _ _ _ h1
  obtain rfl:a0=v3:=by simpa using e3
  obtain rfl:a1=v4:=by simpa using e4
  refine ⟨Br.mk l3 l4,fun k p hp=> ?_, ?_,fun hb=> ?_⟩
  ·match k,hp with
   |0,hp=>cases hp;exact ⟨_,rfl,r3⟩
   |1,hp=>cases hp;exact ⟨_,rfl,r4⟩
   |k+2,hp=>simp [gD] at hp
  ·show jD _<=_
   rw [jD]
   simp only [fG,List.map_nil,Rows.uptoBulk,Rows.uptoBulkAll]
   omega
  ·simp only [fG,List.map_nil,Rows.uptoBulk,Rows.uptoBulkAll] at hb
   exact ⟨⟨k3,by show l3.length<_;omega,by show l4.length<_;omega⟩,q4 (by omega)⟩
 ·obtain ⟨v,l,ds,rfl,hr,hl,hq,hb⟩:=HH (e:=ET.T) (Q:=fun x d=>QT (show Tm from x) d) hN Tryz.underlying23 (by kernel_rfl) iT h
  obtain ⟨s1,s2⟩:=alW (l:=l) hl hq
  have:=Fb (l:=ds)
  have hl': @g4 Tm l=ds.length:=hl
  exact ⟨v,l,rfl,hr,by omega,by omega,fun hd=>s2 (by omega)⟩
 ·obtain ⟨v,l,ds,rfl,hr,hl,hq,hb⟩:=HH (e:=ET.B) (Q:=fun x d=>QB (show Br Tm from x) d) hN Tryz.underlying24 (by kernel_rfl) iB h
  obtain ⟨s1,s2⟩:=alX (l:=l) hl hq
  have:=Fb (l:=ds)
  have hl': @g4 (Br Tm) l=ds.length:=hl
  exact ⟨v,l,rfl,hr,by omega,by omega,fun hd=>s2 (by omega)⟩
end
end Go.Proofs.YtgajalidbabccaaGreatDoor
namespace Go.Proofs
open Go.Shelf
def Tryz.sortCl_ren:Go.Shelf.Ren:=⟨fun|6=>230|15=>280|14=>279|28=>311|29=>312|20=>303|21=>304|22=>305|23=>306|24=>307|25=>308|26=>309|27=>310|46=>328|47=>329|48=>330|49=>331|50=>332|57=>338|n=>n,fun|22=>22|24=>53|25=>177|3=>3|39=>178|0=>0|53=>51|55=>197|4=>4|46=>213|45=>212|50=>217|5=>5|9=>9|66=>221|70=>225|76=>231|77=>63|n=>n,fun|n=>n⟩
theorem Tryz.sortCl:Go.Proofs.SlLaysF0.n6 Tryz.prog Tryz.sortCl_ren:={
 mixed:=by kernel_rfl
 f6:=⟨Tryz.f230.name,by decide,Tryz.func230.trans (congrArg some (by kernel_rfl))⟩
 f14:=⟨Tryz.f279.name,by decide,Tryz.func279.trans (congrArg some (by kernel_rfl))⟩
 f15:=Tryz.func280.trans (congrArg some (by kernel_rfl))
 f20:=⟨Tryz.f303.name,by decide,Tryz.func303.trans (congrArg some (by kernel_rfl))⟩
 f21:=⟨Tryz.f304.name,by decide,Tryz.func304.trans (congrArg some (by kernel_rfl))⟩
 f22:=⟨Tryz.f305.name,by decide,Tryz.func305.trans (congrArg some (by kernel_rfl))⟩
 f23:=⟨Tryz.f306.name,by decide,Tryz.func306.trans (congrArg some (by kernel_rfl))⟩
 f24:=⟨Tryz.f307.name,by decide,Tryz.func307.trans (congrArg some (by kernel_rfl))⟩
 f25:=⟨Tryz.f308.name,by decide,Tryz.func308.trans (congrArg some (by kernel_rfl))⟩
 f26:=⟨Tryz.f309.name,by decide,Tryz.func309.trans (congrArg some (by kernel_rfl))⟩
 f27:=⟨Tryz.f310.name,by decide,Tryz.func310.trans (congrArg some (by kernel_rfl))⟩
 f28:=Tryz.func311.trans (congrArg some (by kernel_rfl))
 f29:=Tryz.func312.trans (congrArg some (by kernel_rfl))
 f46:=⟨Tryz.f328.name,by decide,Tryz.func328.trans (congrArg some (by kernel_rfl))⟩
 f47:=Tryz.func329.trans (congrArg some (by kernel_rfl))
 f48:=Tryz.func330.trans (congrArg some (by kernel_rfl))
 f49:=⟨Tryz.f331.name,by decide,Tryz.func331.trans (congrArg some (by kernel_rfl))⟩
 f50:=⟨Tryz.f332.name,by decide,Tryz.func332.trans (congrArg some (by kernel_rfl))⟩
 f57:=⟨Tryz.f338.name,by decide,Tryz.func338.trans (congrArg some (by kernel_rfl))⟩
 t0:=Tryz.underlying0
 a0:=Tryz.isAgg0
 z0:=Tryz.sizeOf0
 v0:=Tryz.zeroValue0
 t3:=Tryz.underlying3
 a3:=Tryz.isAgg3
 z3:=Tryz.sizeOf3
 v3:=Tryz.zeroValue3
 t4:=Tryz.underlying4
 a4:=Tryz.isAgg4
 z4:=Tryz.sizeOf4
 v4:=Tryz.zeroValue4
 t5:=Tryz.underlying5
 a5:=Tryz.isAgg5
 z5:=Tryz.sizeOf5
 v5:=Tryz.zeroValue5
 t9:=Tryz.underlying9
 a9:=Tryz.isAgg9
 z9:=Tryz.sizeOf9
 v9:=Tryz.zeroValue9
 t22:=Tryz.underlying22
 a22:=Tryz.isAgg22
 z22:=Tryz.sizeOf22
 v22:=Tryz.zeroValue22
 t25:=Tryz.underlying177
 a25:=Tryz.isAgg177
 z25:=Tryz.sizeOf177
 v25:=Tryz.zeroValue177
 t39:=Tryz.underlying178
 a39:=Tryz.isAgg178
 z39:=Tryz.sizeOf178
 v39:=Tryz.zeroValue178
 t45:=Tryz.underlying212
 a45:=Tryz.isAgg212
 z45:=Tryz.sizeOf212
 v45:=Tryz.zeroValue212
 t46:=Tryz.underlying213
 a46:=Tryz.isAgg213
 z46:=Tryz.sizeOf213
 v46:=Tryz.zeroValue213
 t50:=Tryz.underlying217
 a50:=Tryz.isAgg217
 z50:=Tryz.sizeOf217
 v50:=Tryz.zeroValue217
 t53:=Tryz.underlying51
 a53:=Tryz.isAgg51
 z53:=Tryz.sizeOf51
 v53:=Tryz.zeroValue51
 t55:=Tryz.underlying197
 a55:=Tryz.isAgg197
 z55:=Tryz.sizeOf197
 v55:=Tryz.zeroValue197
 t66:=Tryz.underlying221
 a66:=Tryz.isAgg221
 z66:=Tryz.sizeOf221
 v66:=Tryz.zeroValue221
 t70:=Tryz.underlying225
 a70:=Tryz.isAgg225
 z70:=Tryz.sizeOf225
 v70:=Tryz.zeroValue225
 t76:=Tryz.underlying231
 a76:=Tryz.isAgg231
 z76:=Tryz.sizeOf231
 v76:=Tryz.zeroValue231
 t77:=Tryz.underlying63
 a77:=Tryz.isAgg63
 z77:=Tryz.sizeOf63
 v77:=Tryz.zeroValue63}
end Go.Proofs
namespace Go.Proofs.YtgajalidbabccaaGreatDoor
open Go PI
set_option maxRecDepth 100000
noncomputable section
def adJ:Nat:=314
def adK:Nat:=91
noncomputable def IC {S:Type}:List PU->List (Box UU)->(Out UU->Option S)->Option S
 |[.sl .C y0 .none],[],κ=>tU y0 fun r=>κ (.ret (dP r .none) [])
 |_,_,_=> .none
noncomputable def IB {S:Type}:List PU->List (Box UU)->(Out UU->Option S)->Option S
 |[.int .u32 y0],[],κ=>xU y0 fun r=>κ (.ret (po r .none) [])
 |_,_,_=> .none
end
end Go.Proofs.YtgajalidbabccaaGreatDoor
namespace Go.Proofs
open Go.Shelf Go.RowKit
set_option maxHeartbeats 1000000 in
theorem Tryz.tz32_core (x k idx:Nat) (w:World) (hx0:((x:Int)==0)=false)
  (key:bits BinOp.and IntKind.u32 (x:Int) (-(x:Int)%4294967296)*125613361%4294967296/134217728=(idx:Int))
  (hi:idx<32) (hk:k<32) (hcell:w.cell? ⟨0,idx,none⟩=some (.int .u8 k)):
  Calls Tryz.prog 340 #[.int .u32 x] w fun e w'=>e= .returned (.int .i64 k)/\w'=w:=by
 go_enter Tryz.func340,Tryz.ntmps340
 go_wp2_with (simp only [key])
 go_ret
 exact ⟨rfl,rfl⟩
theorem Tryz.tz32 (x:Nat) (hx:x<4294967296) (h0:x≠0) (w:World) (hT:TabAt 0 Lib.deBruijn32tab w):
  Calls Tryz.prog 340 #[.int .u32 x] w fun e w'=>e= .returned (.int .i64 (Lib.ctz 32 x))/\w'=w:=by
 obtain ⟨hlow,hk⟩:=Lib.lowest_bit 32 x h0 hx
 obtain ⟨hi,htab⟩:=Lib.deBruijn32_at _ hk
 have hcell:=hT _ hi
 rw [htab] at hcell
 exact Tryz.tz32_core x _ _ w (by simp;omega) (tz32_key x _ hx h0 hlow) hi hk hcell
end Go.Proofs
namespace Go.Proofs.YtgajalidbabccaaGreatDoor
open Go Go.Shelf Go.RowKit
attribute [local go_sem] Oper.semAt_some
def iN (s:Nat):List Nat:=(d9 24).filter s.testBit
theorem aml (s:Nat) (h0:s≠0) (h:s<16777216):iN s=Lib.ctz 32 s::iN (s&&&(s-1))/\s&&&(s-1)<s:=by
 obtain ⟨m,hm,hk⟩:=Lib.ctzFrom_spec 32 s (by omega) (by omega)
 have e:Lib.ctz 32 s=Lib.ctzFrom 32 s:=by simp [Lib.ctz,h0]
 rw [e]
 generalize Lib.ctzFrom 32 s=t at hm hk
 have hs:s=2^(t+1)*m+2^t:=by
  rw [hm,Nat.mul_add,Nat.mul_one,Nat.pow_succ,<-Nat.mul_assoc]
 have hp:0<2^t:=Nat.two_pow_pos t
 have hp2:2^(t+1)=2^t*2:=Nat.pow_succ 2 t
 have hs1:s-1=2^(t+1)*m+(2^t-1):=by omega
 have b1: ∀j,s.testBit j=if j<t+1 then decide (t=j) else m.testBit (j-(t+1)):=fun j=>by
  rw [hs,Nat.testBit_two_pow_mul_add _ (by omega),Nat.testBit_two_pow]
 have b2: ∀j,(s-1).testBit j=if j<t+1 then decide (j<t) else m.testBit (j-(t+1)):=fun j=>by
  rw [hs1,Nat.testBit_two_pow_mul_add _ (by omega),Nat.testBit_two_pow_sub_one]
 have b3: ∀j,(s&&&(s-1)).testBit j=if j<t+1 then false else m.testBit (j-(t+1)):=fun j=>by
  rw [Nat.testBit_and,b1,b2]
  by_cases hj:j<t+1
  ·rw [if_pos hj,if_pos hj,if_pos hj]
   by_cases ht:t=j
   ·rw [decide_eq_true ht,decide_eq_false (by omega)];rfl
   ·rw [decide_eq_false ht];rfl
  ·rw [if_neg hj,if_neg hj,if_neg hj,Bool.and_self]
 have b4:s&&&(s-1)=2^(t+1)*m:=by
  apply h8
  intro j
  rw [b3]
  have:2^(t+1)*m=2^(t+1)*m+0:=rfl
  rw [this,Nat.testBit_two_pow_mul_add _ (by omega),Nat.zero_testBit]
 have ht:t<24:=by
  apply Nat.lt_of_not_le
  intro hle
  have:2^24<=2^t:=jL (by decide) hle
  have h24:(2:Nat)^24=16777216:=by decide
  omega
 refine ⟨?_,by omega⟩
 unfold iN
 have hr:d9 24=d9 t++(t::(d9 (23-t)).map (fun j=>t+1+j)):=by
  apply List.ext_getElem
  ·simp;omega
  ·intro i h1 h2
   simp only [List.getElem_range]
   by_cases hi:i<t
   ·rw [List.getElem_append_left (by simpa using hi)];simp
   ·rw [List.getElem_append_right (by simpa using hi)]
    simp only [List.length_range]
    by_cases he:i=t
    ·subst he;simp
    ·obtain ⟨d,rfl⟩: ∃d,i=t+1+d:=⟨i-t-1,by omega⟩
     simp only [show t+1+d-t=d+1 by omega,List.getElem_cons_succ,List.getElem_map,List.getElem_range]
 rw [hr,List.filter_append,List.filter_append]
 have f1:(d9 t).filter s.testBit=[]:=List.filter_eq_nil_iff.2 fun j hj=>by
  have:=gc.1 hj
  rw [b1,if_pos (by omega),decide_eq_false (by omega)];decide
 have f2:(d9 t).filter (s&&&(s-1)).testBit=[]:=List.filter_eq_nil_iff.2 fun j hj=>by
  have:=gc.1 hj
  rw [b3,if_pos (by omega)];decide
 rw [f1,f2,eo,eo,List.filter_cons_of_pos (by rw [b1,if_pos (by omega)];simp),List.filter_cons_of_neg (by rw [b3,if_pos (by omega)];decide)]
 congr 1
 apply List.filter_congr
 intro j hj
 obtain ⟨d,_,rfl⟩:=dA.1 hj
 rw [b1,b3,if_neg (by omega),if_neg (by omega)]
theorem amj:iN 0=[]:=List.filter_eq_nil_iff.2 fun j _=>by rw [Nat.zero_testBit];decide
theorem amk (s:Nat):(iN s).length<=24:=by
 have:=List.length_filter_le s.testBit (d9 24)
 simpa [iN] using this
theorem ael (s:Int) (w:World):Calls Tryz.prog 333 #[.int .u32 s] w fun e w'=>e= .returned (.func (.func 339) #[] #[.pointer (some ⟨w.heap.size,0,none⟩)])/\w'=w.alloc (.cells #[.int .u32 s] 51):=by
 go_enter Tryz.func333,Tryz.ntmps333
 go_wp2
 go_ret
 exact ⟨rfl,rfl⟩
def Hg:Code:=(Code.region 3 #[{dst:=some 4,op:=Op.assign (Operand.tmp 7),type:=3,pos:= "mask.go:57",after:= #[],guard:=none}] false)
def Hh:Code:=(Code.block 1 (Code.region 4 #[{dst:=some 8,op:=Op.load 98 (Operand.tmp 3),type:=98,pos:= "mask.go:58",after:= #[],guard:=none},{dst:=some 9,op:=Op.move (Operand.tmp 4),type:=3,pos:= "mask.go:58",after:= #[],guard:=none},{dst:=some 10,op:=Op.buildSlice 98 1 #[(0,Operand.tmp 9)],type:=98,pos:= "mask.go:58",after:= #[{on:=1,ground:=Ground.data}],guard:=none},{dst:=some 11,op:=Op.call {callee:=Callee.builtin Builtin.append,args:= #[Operand.tmp 8,Operand.tmp 10],argTypes:= #[98,98]},type:=98,pos:= "mask.go:58",after:= #[{on:=0,ground:=Ground.data},{on:=2,ground:=Ground.data}],guard:=none},{dst:=none,op:=Op.store 98 (Operand.tmp 3) (Operand.tmp 11),type:=0,pos:= "mask.go:58",after:= #[{on:=3,ground:=Ground.data},{on:=3,ground:=Ground.chain},{on:=0,ground:=Ground.phase},{on:=1,ground:=Ground.phase},{on:=2,ground:=Ground.phase},{on:=3,ground:=Ground.phase}],guard:=none}] false))
def lA (fn:FuncId) (s0:Int) (fv:Value) (Bo D:Nat) (st:LoopState) (pend:Option Code):Loop:=
 {state:=st,pending:=pend,fn,tmps:= #[.int .u32 s0,undef,.slice none 0 0,.pointer (some ⟨Bo,0,none⟩),undef,.int .u32 s0,fv,undef,undef,undef,undef,undef,undef],params:= #[7],assign:=Hg,body:=Hh,defers:=D}
def js (x:Nat):Value:= .int .i64 (x:Int)
structure LsAt (w0:World) (fn:FuncId) (s0:Int) (fv:Value) (Bo l D:Nat) (ss:List Nat) (W:World):Prop where
 box: ∃v,W.heap[Bo]? =some (.cells #[v] 98 (0,0))/\W.ownsRow w0.heap.size 3 1 v ss.length (ss.map js)
 L:W.heap[l]? =some (.loop (lA fn s0 fv Bo D .ready none))
 K:W.heap[D]? =some (.deferred (some []))
 below:Below w0.heap.size w0 W
theorem tV (W:World) (l:Nat) (o:Obj):W.grownBy (W.putObj l o) (some l):=
 ⟨rfl,rfl,rfl,by simp,fun k _ hk=>World.putObj_heap_other (fun e=>hk (by rw [e]))⟩
theorem IZ (W:World) (b:Nat) (v:Value):W.grownBy (W.setCell ⟨b,0,none⟩ v) (some b):=
 ⟨rfl,rfl,rfl,(KeepsWalks.setCell W _ v).size,fun k _ hk=>Below.heap_setCell _ _ _ k (fun e=>hk (by rw [e]))⟩
theorem pc {W:World} {base:Nat} {e:TypeId} {size:Nat} {v:Value} {k:Nat} {xs:List Value} (h:W.ownsRow base e size v k xs) {j:Nat} {o:Obj} (hj:W.heap[j]? =some o) (hno: ∀cur,o≠ .cells cur e (0,0)):
  v.ownBlock=none\/v.ownBlock≠some j:=by
 rcases h.2 with ⟨rfl,_⟩|⟨g,cap,cur,rfl,_,hgb,_⟩
 ·exact .inl rfl
 ·refine .inr fun e'=> ?_
  have:g=j:=by simpa [Value.ownBlock] using e'
  subst this;rw [hgb] at hj;cases hj;exact hno cur rfl
theorem pN {W:World} {B:Nat} {v:Value} {t:TypeId} (h:W.heap[B]? =some (.cells #[v] t (0,0))):W.cell? ⟨B,0,none⟩=some v/\W.frozen? ⟨B,0,none⟩=false:=by
 constructor<;>simp [World.cell?,World.frozen?,h]
theorem E_ {W:World} {B:Nat} {v:Value} {t:TypeId} (v':Value) (h:W.heap[B]? =some (.cells #[v] t (0,0))):(W.setCell ⟨B,0,none⟩ v').heap[B]? =some (.cells #[v'] t (0,0)):=by
 obtain ⟨hlt,hk⟩:=f_.1 h
 show (W.heap.modify B _)[B]? =_
 rw [kZ (by rw [Array.size_modify];exact hlt),Array.getElem_modify_self,hk]
 rfl
theorem aen:(Tryz.prog.info? 3).map (fun i=>(i.zero,i.size,i.bytes))=some (some (.int .i64 0),1,8):=by kernel_rfl
set_option maxRecDepth 100000 in
set_option maxHeartbeats 2000000 in
theorem ahB (F:Fence) (m:Nat) (w0:World) (fn:FuncId) (hfn:F.fn fn) (s0:Int) (fv:Value) (Bo Bi l D:Nat) (hBl:Bo≠l) (hDl:D≠l) (hDB:D≠Bo) (hBiBo:Bi≠Bo) (hBil:Bi≠l) (h0B:w0.heap.size<=Bo) (h0l:w0.heap.size<=l)
  (ss:List Nat) (x:Nat) (c:Value) (W:World) (h:LsAt w0 fn s0 fv Bo l D ss W) (hi0:W.heap[Bi]? =some (.cells #[c] 51 (0,0))) (hlen:ss.length<24):
  YieldAt F m Tryz.prog l #[js x] W fun e W'=>e= .returned (.bool true)/\LsAt w0 fn s0 fv Bo l D (ss++[x]) W'/\W'.heap[Bi]? =some (.cells #[c] 51 (0,0)):=by
 obtain ⟨i0,hi,hz0,hz1,hz2⟩:=info_parts aen
 obtain ⟨v,hv,hrow⟩:=h.box
 refine ⟨fn,#[.int .u32 s0,undef,.slice none 0 0,.pointer (some ⟨Bo,0,none⟩),undef,.int .u32 s0,fv,.int .i64 (x:Int),undef,undef,undef,undef,undef],Hg,Hh,by simpa [lA,js] using run_yield (P:=Tryz.prog) (args:= #[js x]) h.L rfl,roundIn_of_wpIn hfn ?_⟩
 have hl:l<W.heap.size:=(f_.1 h.L).1
 have hbr:=run_beginRound (P:=Tryz.prog) h.L rfl
 obtain ⟨W2,hW2⟩: ∃W2,W.putObj l (.loop {lA fn s0 fv Bo D .ready none with state:= .busy})=W2:=⟨_,rfl⟩
 rw [hW2] at hbr
 have hg2:W.grownBy W2 (some l):=by rw [<-hW2];exact tV _ _ _
 have hv2:W2.heap[Bo]? =some (.cells #[v] 98 (0,0)):=by rw [<-hW2];exact (World.putObj_heap_other hBl).trans hv
 have hi2:W2.heap[Bi]? =some (.cells #[c] 51 (0,0)):=by rw [<-hW2];exact (World.putObj_heap_other hBil).trans hi0
 have hK2:W2.heap[D]? =some (.deferred (some [])):=by rw [<-hW2];exact (World.putObj_heap_other hDl).trans h.K
 have hL2:W2.heap[l]? =some (.loop {lA fn s0 fv Bo D .ready none with state:= .busy}):=by rw [<-hW2];exact World.putObj_heap_same hl
 have hrow2:W2.ownsRow w0.heap.size 3 1 v ss.length (ss.map js):=hrow.kept hg2 (pc hrow h.L (fun cur e=>by cases e))
 have hb2:Below w0.heap.size w0 W2:=h.below.grown hg2 h.below.size (fun k e=>by cases e;exact h0l)
 obtain ⟨hc2,hf2⟩:=pN hv2
 have hBlt:Bo<W2.heap.size:=(f_.1 hv2).1
 have hBilt:Bi<W2.heap.size:=(f_.1 hi2).1
 have hl2:l<W2.heap.size:=(f_.1 hL2).1
 have hDlt:D<W2.heap.size:=(f_.1 hK2).1
 have ne_of: ∀ {j:Nat} {o:Obj},W2.heap[j]? =some o->(∀cur,o≠ .cells cur 3 (0,0))->some j≠v.ownBlock:=fun hj hno=>by
  rcases pc hrow2 hj hno with e|e
  ·rw [e];simp
  ·exact fun e'=>e e'.symm
 clear hW2
 have hml:24<=maxLen:=by unfold maxLen;omega
 unfold Hg
 gi_wp2_with (rw [Oper.semAt_eq _ _ _ (fun c h=>by cases h)];go_simp;try go_bits)
 unfold Hh
 gi_wp2_with (first
  |(gi_at_builtin;refine wpListIn_append_own _ rfl _ _ 98 rfl w0.heap.size 3 i0 (.int .i64 0) 1 8 Tryz.underlying98 hi hz0 hz1 hz2 rfl (by decide) _ _ _ rfl (hrow2.alloc _) ⟨W2.heap.size,0,none⟩ 1 1 [js x] rfl rfl (cell_one_new _ _ _) (by simp [Value.oneCell',js]) (by omega) (by omega) (by have:=hb2.size;simp;omega) ?_;intro v' w3 hown' hg3 hnil3
    have hv3:w3.heap[Bo]? =some (.cells #[v] 98 (0,0)):=(hg3.block Bo (by simp;omega) (ne_of hv2 (fun cur e=>by cases e))).trans ((Below.heap_alloc _ _ Bo hBlt).trans hv2)
    obtain ⟨hc3,hf3⟩:=pN hv3
    obtain ⟨g',cap',cur',rfl,hbase',hgb',hr1,hr2,hr3,hr4⟩: ∃g' cap' cur',v'= .slice (some ⟨g',0,none⟩) (ss.length+1) cap'/\w0.heap.size<=g'/\w3.heap[g']? =some (.cells cur' 3 (0,0))/\ss.length+1<=cap'/\cap'<=maxLen/\cur'.size=cap'*1/\cur'.toList.take ((ss.length+1)*1)=ss.map js++[js x]:=by
     rcases hown'.2 with ⟨_,h0⟩|h'
     ·exact absurd h0 (by omega)
     ·exact h'
    go_frame)
  |(rw [Oper.semAt_eq _ _ _ (fun c h=>by cases h)];go_simp;try go_bits))
 have hg3':(W2.alloc (.cells #[js x] 3)).grownBy w3 v.ownBlock:=hg3
 have hL3:w3.heap[l]? =some (.loop {lA fn s0 fv Bo D .ready none with state:= .busy}):=(hg3'.block l (by simp;omega) (ne_of hL2 (fun cur e=>by cases e))).trans ((Below.heap_alloc _ _ l hl2).trans hL2)
 have hK3:w3.heap[D]? =some (.deferred (some [])):=(hg3'.block D (by simp;omega) (ne_of hK2 (fun cur e=>by cases e))).trans ((Below.heap_alloc _ _ D hDlt).trans hK2)
 have hi3:w3.heap[Bi]? =some (.cells #[c] 51 (0,0)):=(hg3'.block Bi (by simp;omega) (ne_of hi2 (fun cur e=>by cases e))).trans ((Below.heap_alloc _ _ Bi hBilt).trans hi2)
 obtain ⟨w4,hw4⟩: ∃w4,w3.setCell ⟨Bo,0,none⟩ (.slice (some ⟨g',0,none⟩) (ss.length+1) cap')=w4:=⟨_,rfl⟩
 rw [hw4]
 have hg4:w3.grownBy w4 (some Bo):=by rw [<-hw4];exact IZ _ _ _
 have hv4:w4.heap[Bo]? =some (.cells #[.slice (some ⟨g',0,none⟩) (ss.length+1) cap'] 98 (0,0)):=by rw [<-hw4];exact E_ _ hv3
 have hL4:w4.heap[l]? =some (.loop {lA fn s0 fv Bo D .ready none with state:= .busy}):=(hg4.block l (f_.1 hL3).1 (fun e=>hBl (by cases e;rfl))).trans hL3
 have hK4:w4.heap[D]? =some (.deferred (some [])):=(hg4.block D (f_.1 hK3).1 (fun e=>hDB (by cases e;rfl))).trans hK3
 have hi4:w4.heap[Bi]? =some (.cells #[c] 51 (0,0)):=(hg4.block Bi (f_.1 hi3).1 (fun e=>hBiBo (by cases e;rfl))).trans hi3
 have hrow4:=hown'.kept hg4 (pc hown' hv3 (fun cur e=>by cases e))
 have hl4:l<w4.heap.size:=(f_.1 hL4).1
 have hb3:Below w0.heap.size w0 w3:=(hb2.alloc hb2.size _).grown hg3' (by have:=hb2.size;simp;omega) (fun k e=>(hrow2.lt k e).1)
 have hb4:Below w0.heap.size w0 w4:=hb3.grown hg4 hb3.size (fun k e=>by cases e;exact h0B)
 clear hw4
 refine ⟨_,_,run_endRound none hL4,rfl,⟨⟨_,(World.putObj_heap_other hBl).trans hv4, ?_⟩,World.putObj_heap_same hl4,(World.putObj_heap_other hDl).trans hK4,hb4.grown (tV _ _ _) hb4.size (fun k e=>by cases e;exact h0l)⟩,(World.putObj_heap_other hBil).trans hi4⟩
 have:=hrow4.kept (tV w4 l (.loop {{lA fn s0 fv Bo D .ready none with state:= .busy} with state:=if (none:Option Code).isNone then .ready else .done,pending:=none})) (pc hrow4 hL4 (fun cur e=>by cases e))
 simpa using this
def G8 (Bi:Nat) (w:World):Nat:=match w.cell? ⟨Bi,0,none⟩ with
 |some v=>(intOf v).toNat
 |none=>0
theorem NF {Bi:Nat} {w:World} {n:Nat} {t:TypeId} (h:w.heap[Bi]? =some (.cells #[.int .u32 (n:Int)] t (0,0))):G8 Bi w=n:=by
 unfold G8;rw [(pN h).1];simp [intOf]
theorem Z3 {w0 W:World} (hT:TabAt 0 Lib.deBruijn32tab w0) (hb:Below w0.heap.size w0 W):TabAt 0 Lib.deBruijn32tab W:=fun j hj=>by
 have h:=hT j hj
 have h0:0<w0.heap.size:=World.block_lt_of_cell? w0 ⟨0,j,none⟩ h
 exact (hb.cell (p:=⟨0,j,none⟩) h0).trans h
theorem aag (s:Int):bits .and .u32 s 16777215=(((BitVec.ofInt 32 s).toNat&&&16777215:Nat):Int):=by
 have hx:(BitVec.ofInt 32 s).toNat&&&16777215<2^32:=Nat.and_lt_two_pow _ (by omega)
 show IntKind.u32.wrap ((BitVec.ofInt 32 s&&&BitVec.ofInt 32 16777215).toNat:Int)=_
 rw [BitVec.toNat_and,wrap_u32',show (BitVec.ofInt 32 16777215).toNat=16777215 from by decide]
 omega
def lz (s:Int):Nat:=(BitVec.ofInt 32 s).toNat&&&16777215
theorem aah (s:Nat) (h0:s≠0) (h:s<4294967296):bits .and .u32 (s:Int) ((s:Int)-1)=((s&&&(s-1):Nat):Int):=by
 have:(s:Int)-1=((s-1:Nat):Int):=by omega
 rw [this];exact bits_and_u32_nat s (s-1) h (by omega)
set_option maxRecDepth 100000 in
set_option maxHeartbeats 2000000 in
theorem ahA (F:Fence) (n:Nat) (h339:F.fn 339) (h340:F.fn 340) (hro:F.round=none) (hn:1<=n) (w0:World) (fn:FuncId) (hfn:F.fn fn) (s0:Int) (fv:Value) (Bo Bi l D:Nat) (hBl:Bo≠l) (hDl:D≠l) (hDB:D≠Bo) (hBiBo:Bi≠Bo) (hBil:Bi≠l) (hBiD:Bi≠D)
  (h0B:w0.heap.size<=Bo) (h0l:w0.heap.size<=l) (h0i:w0.heap.size<=Bi) (hT:TabAt 0 Lib.deBruijn32tab w0) (s:Int) (W:World) (h:LsAt w0 fn s0 fv Bo l D [] W) (hi0:W.heap[Bi]? =some (.cells #[.int .u32 s] 51 (0,0)))
  (htz: ∀ (x:Nat),x<4294967296->x≠0-> ∀W',TabAt 0 Lib.deBruijn32tab W'->CallsIn F (n-1) Tryz.prog 340 #[.int .u32 x] W' fun e w'=>e= .returned (.int .i64 (Lib.ctz 32 x))/\w'=W'):
  CallsIn F n Tryz.prog 339 #[.func (.yield l) #[] #[],.pointer (some ⟨Bi,0,none⟩)] W fun e W'=>(∃v,e= .returned v)/\LsAt w0 fn s0 fv Bo l D (iN (lz s)) W':=by
 obtain ⟨hc0,hf0⟩:=pN hi0
 have ha:bits .and .u32 s 16777215=((lz s:Nat):Int):=aag s
 have hsl:lz s<16777216:=ko Nat.and_le_right (by decide)
 generalize lz s=q at ha hsl ⊢
 refine callsIn_of_wp Tryz.func339 rfl h339 ?_ hro
 simp only [Tryz.ntmps339,List.size_toArray,dD,iV,Nat.reduceAdd,Nat.reduceSub,Array.replicate_succ,Array.replicate_zero,List.push_toArray,List.append_toArray,eo,List.cons_append]
 gi_wp2
 have hi1:=E_ (.int .u32 (q:Int)) hi0
 have hA1:LsAt w0 fn s0 fv Bo l D [] (W.setCell ⟨Bi,0,none⟩ (.int .u32 (q:Int))):=by
  obtain ⟨v,hv,hrow⟩:=h.box
  exact ⟨⟨v,(Below.heap_setCell _ _ _ Bo (fun e=>hBiBo e.symm)).trans hv,hrow.kept (IZ _ _ _) (pc hrow hi0 (fun cur e=>by cases e))⟩,(Below.heap_setCell _ _ _ l (fun e=>hBil e.symm)).trans h.L,(Below.heap_setCell _ _ _ D (fun e=>hBiD e.symm)).trans h.K,h.below.setCell h0i _⟩
 gi_loopw [] (fun wr=> ∃ (pre:List Nat) (c:Nat),c<16777216/\pre++iN c=iN q/\LsAt w0 fn s0 fv Bo l D pre wr/\wr.heap[Bi]? =some (.cells #[.int .u32 (c:Int)] 51 (0,0)))
  (fun wr=>G8 Bi wr)
 case atStart=>exact ⟨[],q,hsl,rfl,hA1,hi1⟩
 case round=>
  obtain ⟨pre,c,hc,hp,hA,hb⟩:=hrel
  clear hc0 hf0 ha hi1 hA1
  obtain ⟨hc1,hf1⟩:=pN hb
  by_cases hz:c=0
  ·subst hz
   rw [amj,eU] at hp
   gi_wp2
   go_end0
   exact ⟨⟨_,rfl⟩,hp▸hA⟩
  ·have hne:((c:Int)==0)=false:=by simp;omega
   have hne': ¬ ((c:Int)=0):=by omega
   have hstep:=aml c hz hc
   have hpl:pre.length<24:=by
    have h1:=amk q
    have h2:=congrArg g4 hp
    rw [hstep.1,it,dD] at h2
    omega
   obtain ⟨fn',tmps,assign,body,hy,hR⟩:=ahB F (n-1) w0 fn hfn s0 fv Bo Bi l D hBl hDl hDB hBiBo hBil h0B h0l pre (Lib.ctz 32 c) (.int .u32 (c:Int)) wr hA hb hpl
   have hT1:=Z3 hT hA.below
   have hap:=aah c hz (by omega)
   unfold js at hy
   have hyH:Hid (Lib.ctz 32 c=Lib.ctz 32 c):=rfl
   gi_wp2_with (gi_at_call 340;refine (htz c (by omega) hz _ hT1).mono ?_;rintro e w' ⟨rfl,rfl⟩)
   refine hR.mono ?_
   rintro e W3 ⟨rfl,hA3,hb3⟩
   obtain ⟨hc3,hf3⟩:=pN hb3
   clear hc1 hf1 hA hy hR hT1
   gi_wp2
   have hb4:=E_ (.int .u32 ((c&&&(c-1):Nat):Int)) hb3
   have hlt:=hstep.2
   go_roundw
   case rel=>
    refine ⟨pre++[Lib.ctz 32 c],c&&&(c-1),by omega, ?_, ?_,hb4⟩
    ·rw [<-hp,hstep.1,gZ];rfl
    ·obtain ⟨v,hv,hrow⟩:=hA3.box
     exact ⟨⟨v,(Below.heap_setCell _ _ _ Bo (fun e=>hBiBo e.symm)).trans hv,hrow.kept (IZ _ _ _) (pc hrow hb3 (fun cur e=>by cases e))⟩,(Below.heap_setCell _ _ _ l (fun e=>hBil e.symm)).trans hA3.L,(Below.heap_setCell _ _ _ D (fun e=>hBiD e.symm)).trans hA3.K,hA3.below.setCell h0i _⟩
   case measure=>rw [NF hb4,NF hb];exact hlt
set_option maxRecDepth 100000 in
set_option maxHeartbeats 2000000 in
theorem ahv (F:Fence) (n:Nat) (h314:F.fn 314) (h333:F.fn 333) (h339:F.fn 339) (h340:F.fn 340) (hro:F.round=none) (hn:3<=n) (s:Int) (w:World) (hT:TabAt 0 Lib.deBruijn32tab w)
  (hin: ∀W,CallsIn F (n-1) Tryz.prog 333 #[.int .u32 s] W fun e w'=>e= .returned (.func (.func 339) #[] #[.pointer (some ⟨W.heap.size,0,none⟩)])/\w'=W.alloc (.cells #[.int .u32 s] 51))
  (htz: ∀ (x:Nat),x<4294967296->x≠0-> ∀W',TabAt 0 Lib.deBruijn32tab W'->CallsIn F (n-1-1) Tryz.prog 340 #[.int .u32 x] W' fun e w'=>e= .returned (.int .i64 (Lib.ctz 32 x))/\w'=W'):
  CallsIn F n Tryz.prog 314 #[.int .u32 s] w fun e w'=> ∃v:Value,e= .returned v/\w'.ownsRow w.heap.size 3 1 v (iN (lz s)).length ((iN (lz s)).map js)/\Below w.heap.size w w':=by
 have h1:1<=n:=by omega
 have eg: ∀args w,(callFunc 339 args).run Tryz.prog w= .ok (.enter 339 args) w:=enters_of Tryz.func339 (by kernel_rfl) rfl
 refine callsIn_of_wp_marks Tryz.func314 rfl h314 ?_ hro
 simp only [Tryz.ntmps314,List.size_toArray,dD,iV,Nat.reduceAdd,Nat.reduceSub,Array.replicate_succ,Array.replicate_zero,List.push_toArray,List.append_toArray,eo,List.cons_append]
 gi_wp2_with (gi_at_call 333;refine (hin _).mono ?_;rintro e w' ⟨rfl,rfl⟩)
 refine wpIn_rangeFunc ?_
 intro fn hfn
 rw [hro]
 obtain ⟨fv,hfv⟩: ∃fv:Value,fv= .func (.func 339) #[] #[.pointer (some ⟨w.heap.size+1,0,none⟩)]:=⟨_,rfl⟩
 obtain ⟨W0,hW0⟩: ∃W0,(w.alloc (.cells #[.slice none 0 0] 98)).alloc (.cells #[.int .u32 s] 51)=W0:=⟨_,rfl⟩
 have hs0:W0.heap.size=w.heap.size+2:=by rw [<-hW0];simp
 have hv0:W0.heap[w.heap.size]? =some (.cells #[.slice none 0 0] 98 (0,0)):=by rw [<-hW0];exact (Below.heap_alloc _ _ _ (by simp)).trans (World.alloc_heap_new w _)
 have hi0:W0.heap[w.heap.size+1]? =some (.cells #[.int .u32 s] 51 (0,0)):=by
  rw [<-hW0];have:=World.alloc_heap_new (w.alloc (.cells #[.slice none 0 0] 98)) (.cells #[.int .u32 s] 51);rwa [World.size_alloc] at this
 have hb0:Below w.heap.size w W0:=by rw [<-hW0];exact ((Below.refl _ w).alloc (dv _) _).alloc (by simp) _
 rw [hW0]
 obtain ⟨W1,hW1⟩: ∃W1,(W0.alloc (.deferred (some []))).alloc (.loop (lA fn s fv w.heap.size W0.heap.size .ready none))=W1:=⟨_,rfl⟩
 have hold: ∀k,k<W0.heap.size->W1.heap[k]? =W0.heap[k]? :=fun k hk=>by
  rw [<-hW1];exact (Below.heap_alloc _ _ k (by simp;omega)).trans (Below.heap_alloc _ _ k hk)
 have hb1:Below w.heap.size w W1:=by rw [<-hW1];exact (hb0.alloc hb0.size _).alloc (by have:=hb0.size;simp;omega) _
 have hM:LsAt w fn s fv w.heap.size (W0.heap.size+1) W0.heap.size [] W1:=
  ⟨⟨_,(hold w.heap.size (by omega)).trans hv0,⟨rfl,.inl ⟨rfl,rfl⟩⟩⟩,
   by rw [<-hW1];have:=World.alloc_heap_new (W0.alloc (.deferred (some []))) (.loop (lA fn s fv w.heap.size W0.heap.size .ready none));rwa [World.size_alloc] at this,
   by rw [<-hW1];exact (Below.heap_alloc _ _ _ (by simp)).trans (World.alloc_heap_new W0 _),hb1⟩
 refine ⟨W0.heap.size+1,[{target:= .collected W0.heap.size,args:= #[]}],W1,{target:= .fn (.func 339) #[.pointer (some ⟨w.heap.size+1,0,none⟩)],args:= #[.func (.yield (W0.heap.size+1)) #[] #[]]},W1,339,
  #[.func (.yield (W0.heap.size + 1)) #[] #[]] ++ #[.pointer (some ⟨w.heap.size + 1, 0, none⟩)], W1, ?_, ?_, ?_, ?_, fun _ => h1, ?_⟩
 ·rw [<-hW1,hfv];exact run_enterLoop_outer _ _ _ _ _
 ·simp [resolve,go_sem]
 ·intro f' hf';simp [Target.leads] at hf';subst hf';exact h339
 ·simp [invoke,go_sem,eg]
 ·refine (ahA F (n-1) h339 h340 hro (by omega) w fn hfn s fv w.heap.size (w.heap.size+1) (W0.heap.size+1) W0.heap.size (by omega) (by omega) (by omega) (by omega) (by omega) (by omega) (dv _) (by omega) (by omega) hT s W1 hM ((hold _ (by omega)).trans hi0) htz).mono ?_
  rintro e W2 ⟨⟨v0,rfl⟩,h2⟩
  obtain ⟨v,hv,hrow⟩:=h2.box
  have hend:=run_endLoop (P:=Tryz.prog) h2.L (by simp [lA])
  obtain ⟨W3,hW3⟩: ∃W3,W2.putObj (W0.heap.size+1) (.loop {lA fn s fv w.heap.size W0.heap.size .ready none with state:= .exhausted})=W3:=⟨_,rfl⟩
  rw [hW3] at hend
  have hg3:W2.grownBy W3 (some (W0.heap.size+1)):=by rw [<-hW3];exact tV _ _ _
  have hv3:W3.heap[w.heap.size]? =some (.cells #[v] 98 (0,0)):=by rw [<-hW3];exact (World.putObj_heap_other (by omega)).trans hv
  have hK3:W3.heap[W0.heap.size]? =some (.deferred (some [])):=by rw [<-hW3];exact (World.putObj_heap_other (by omega)).trans h2.K
  have hrow3:=hrow.kept hg3 (pc hrow h2.L (fun cur e=>by cases e))
  have hb3:Below w.heap.size w W3:=h2.below.grown hg3 h2.below.size (fun k e=>by cases e;omega)
  obtain ⟨hc3,hf3⟩:=pN hv3
  clear hW3
  refine ⟨none,W3,hend, ?_⟩
  clear hfv
  gi_wp2
  rw [show (w.heap.size+1+1)=W0.heap.size by omega]
  refine ⟨by simp,.inl ⟨_,_,rfl,run_takeDeferred hK3, ?_⟩⟩
  exact ⟨_,results_tmp rfl _ _ _,v,rfl,hrow3.kept (tV _ _ _) (pc hrow3 hK3 (fun cur e=>by cases e)),hb3.grown (tV _ _ _) hb3.size (fun k e=>by cases e;omega)⟩
end Go.Proofs.YtgajalidbabccaaGreatDoor
namespace Go.Proofs.YtgajalidbabccaaGreatDoor
open Go PI Go.Shelf Go.RowKit
set_option maxRecDepth 100000
def ai (o:Obj):Prop:= ∃ (cur:Array Value) (e:TypeId) (fr:Nat×Nat),o= .cells cur e fr/\ ∀j,j<Lib.deBruijn32tab.length->cur[j]? =some (.int .u8 (Lib.deBruijn32tab.getD j 0))
theorem alZ {o:Obj} (ho:ai o) {w:World} (h:w.heap[0]? =some o):TabAt 0 Lib.deBruijn32tab w:=fun j hj=>by
 obtain ⟨cur,e,fr,rfl,hc⟩:=ho
 have:=hc j hj
 simp [World.cell?,h,this]
theorem ahu (s:Int) (w:World) (hT:TabAt 0 Lib.deBruijn32tab w):Calls Tryz.prog 314 #[.int .u32 s] w fun e w'=> ∃v:Value,e= .returned v/\w'.ownsRow w.heap.size 3 1 v (iN (lz s)).length ((iN (lz s)).map js)/\Below w.heap.size w w':=
 callsIn_wide.1 (ahv Fence.wide 5 trivial trivial trivial trivial rfl (by omega) s w hT (fun W=>callsIn_wide.2 (ael s W)) fun x hx h0 W' hT'=>callsIn_wide.2 (Tryz.tz32 x hx h0 W' hT'))
theorem ahF (s:Int):tM s=(iN (lz s)).map fun n:Nat=>(n:Int):=by
 unfold tM iN lz
 have:(d9 24).filter ((BitVec.ofInt 32 s).toNat&&&16777215).testBit=(d9 24).filter fun i=>(BitVec.ofInt 32 s).getLsbD i:=List.filter_congr fun i hi=>by
  have hi:i<24:=gc.1 hi
  have h24:(16777215:Nat)=2^24-1:=by decide
  rw [Nat.testBit_and,h24,Nat.testBit_two_pow_sub_one,decide_eq_true hi,Bool.and_true];rfl
 rw [this];rfl
theorem aao {X:Link VV Tryz.prog} {w w':World} {vs:Array Value} {N0:aR} {ν:Nat->Nat} {δ:Nat->Option Nat} {ο:Nat->Array Value} {args:List PU} (hg:Given X w vs N0 ν δ ο args []) (hb:Below w.heap.size w w'):
  Back X w w' N0 ν δ ο 0 args.length ν (fun _=>none) [] where
 ext:=⟨hb.os,hb.tape,hb.output,hb.size,fun b hlt _=>hb.block b hlt⟩
 le:=dv _
 old:=fun i h=>absurd h (Nat.not_lt_zero i)
 new:=fun i _ h=>absurd h (Nat.not_lt_zero i)
 dnew:=fun j b h=>by cases h
 bnd:={
  inj:=fun i j h=>absurd h (Nat.not_lt_zero i)
  lt:=fun i h=>absurd h (Nat.not_lt_zero i)
  dlt:=fun j b h=>by cases h
  dinj:=fun i j b h=>by cases h
  dν:=fun j b h=>by cases h
  n0:=fun b o h=>⟨gM (hg.bnd.n0 b o h).1 hb.size,fun i h=>absurd h (Nat.not_lt_zero i),fun j h=>by cases h⟩}
 boxes:=fun k b h=>by simp at h
theorem amb {S:Type} (o:Obj) (ho:ai o) (vs:List PU) (bs:List (Box UU)) (κ:Out UU->Option S) (x:S) (h:IB vs bs κ=some x): ∃out,d5 (LL o) adJ vs bs out/\κ out=some x:=by
 unfold IB at h
 split at h
 case h_2=>cases h
 rename_i κ y
 refine ⟨_, ?_,h⟩
 refine ⟨⟨Tryz.f314,Tryz.func314,by kernel_rfl,rfl⟩,fun w vs N0 ν δ ο hg=> ?_⟩
 have hs:vs.size=1:=hg.size
 have h0:=hg.args 0 _ rfl
 obtain ⟨v0,hv0⟩: ∃v0,vs= #[v0]:=by
  obtain ⟨l⟩:=vs
  match l,hs with
  |[v],_=>exact ⟨v,rfl⟩
 subst hv0
 have h0:Rep (LL o) w _ _ v0 (.int .u32 y):=h0
 cases h0
 have hT:=alZ ho (hg.glob 0 o (by simp [LL])).1
 refine (ahu y w hT).mono ?_
 rintro e w' ⟨v,rfl,hrow,hb⟩
 refine ⟨ν,fun _=>none,aao hg hb, ?_⟩
 show Rep (LL o) w' _ _ v (.sl ET.I (tM y) .none)
 rw [ahF]
 generalize iN (lz y)=ts at hrow
 obtain ⟨hl,hr⟩:=hrow
 rcases hr with ⟨rfl,hn⟩|⟨g,cap,cur,rfl,hg0,hgb,hc,hc',hsz,htk⟩
 ·have:ts=[]:=List.length_eq_zero_iff.1 hn
  subst this
  exact .sl none 0 0 _ _ _ (fun _ _=>undef) rfl (dv _) trivial (fun j x hx=>by cases hx) (fun j x hx=>by cases hx)
 ·have hcell: ∀j x,(ts.map fun n:Nat=>(n:Int))[j]? =some x->cur.getD j undef= .int .i64 x/\w'.cell? ⟨g,j,none⟩=some (.int .i64 x):=by
   intro j x hx
   rw [ir] at hx
   cases ht:ts[j]? with
   |none=>rw [ht] at hx;cases hx
   |some n=>
    rw [ht] at hx
    injection hx with hx
    have hj:j<ts.length:=(cD.1 ht).1
    have h1:(cur.toList.take (ts.length*1))[j]? =some (js n):=by rw [htk,ir,ht];rfl
    rw [List.getElem?_take_of_lt (by omega)] at h1
    have h2:cur[j]? =some (.int .i64 x):=by rw [<-Array.getElem?_toList,h1,<-hx];rfl
    refine ⟨?_,by simp [World.cell?,hgb,h2]⟩
    rw [cH,h2];rfl
  refine Rep.sl (X:=LL o) (some ⟨g,0,none⟩) ts.length cap ET.I (show List Int from ts.map fun n:Nat=>(n:Int)) .none (fun j k=>cur.getD (j+k) undef) (List.length_map _) hc trivial (fun j x hx k p hp=> ?_) (fun j x hx k p hp=> ?_)
  ·match k,hp with
   |0,hp=>
    obtain ⟨h1,h2⟩:=hcell j x hx
    refine ⟨_,rfl, ?_, ?_⟩
    ·have:(⟨g,0,none⟩:Addr).add (j*(LL o).esize ET.I+0)=⟨g,j,none⟩:=by
      rw [Addr.add_lit'];show (⟨g,0+(j*1+0),none⟩:Addr)=_;congr 1;omega
     rw [this,h2];rw [Nat.add_zero,h1]
    ·rintro (hN|⟨i,hi,_⟩|⟨i,hi⟩)
     ·have:=(hg.bnd.n0 _ _ hN).1
      simp at this;omega
     ·exact absurd hi (Nat.not_lt_zero i)
     ·cases hi
   |k+1,hp=>simp [VV,gD] at hp
  ·match k,hp with
   |0,hp=>
    obtain ⟨h1,h2⟩:=hcell j x hx
    rw [Nat.add_zero,h1]
    have:p= .int .i64 x:=by simpa [VV,gD] using hp.symm
    subst this
    exact .int _ _
   |k+1,hp=>simp [VV,gD] at hp
open Go.Sort
def pO (a b:Int):Int:=if a<b then-1 else if b<a then 1 else 0
def lX (x y:Cl):Int:=if x.pos=y.pos then pO x.neg y.neg else pO x.pos y.pos
def iD (x:Cl):List Value:=[.int .u32 x.pos,.int .u32 x.neg]
theorem GF (a:Int) (W:World):Calls Tryz.prog 313 #[.int .u32 a] W fun e w'=>e= .returned (.bool false)/\w'=W:=by
 go_enter Tryz.func313,Tryz.ntmps313
 go_wp2
 go_ret
 exact ⟨by simp,rfl⟩
set_option maxHeartbeats 1000000 in
theorem Lc (a b:Int) (W:World):Calls Tryz.prog 281 #[.int .u32 a,.int .u32 b] W fun e w'=>e= .returned (.int .i64 (pO a b))/\w'=W:=by
 unfold pO
 by_cases h1:a<b
 ·rw [if_pos h1]
  go_enter Tryz.func281,Tryz.ntmps281
  go_wp2_with (go_at_call 313;refine (GF _ _).mono ?_;rintro e w' ⟨rfl,rfl⟩)
  go_ret
  exact ⟨rfl,rfl⟩
 ·rw [if_neg h1]
  by_cases h2:b<a
  ·rw [if_pos h2]
   go_enter Tryz.func281,Tryz.ntmps281
   go_wp2_with (go_at_call 313;refine (GF _ _).mono ?_;rintro e w' ⟨rfl,rfl⟩)
   go_ret
   exact ⟨rfl,rfl⟩
  ·rw [if_neg h2]
   go_enter Tryz.func281,Tryz.ntmps281
   go_wp2_with (go_at_call 313;refine (GF _ _).mono ?_;rintro e w' ⟨rfl,rfl⟩)
   go_ret
   exact ⟨rfl,rfl⟩
set_option maxHeartbeats 1000000 in
theorem aaN (x y:Cl) (W:World):Calls Tryz.prog 231 #[.agg (iD x).toArray,.agg (iD y).toArray] W fun e w'=>e= .returned (.int .i64 (lX x y))/\ ∃q os',w'=grow (W.drewN q) os':=by
 obtain ⟨a,b⟩:=x
 obtain ⟨a',b'⟩:=y
 have h1:=Lc a a'
 have h2:=Lc b b'
 unfold lX
 simp only [iD]
 generalize pO a a'=r1 at h1 ⊢
 generalize pO b b'=r2 at h2 ⊢
 by_cases h:a=a'
 ·rw [if_pos h]
  go_enter Tryz.func231,Tryz.ntmps231
  go_wp2_with (go_at_call 281;refine (h2 _).mono ?_;rintro e w' ⟨rfl,rfl⟩)
  go_ret
  exact ⟨rfl,0,_,by rw [alloc_eq_grow,alloc_eq_grow,grow_grow];rfl⟩
 ·rw [if_neg h]
  go_enter Tryz.func231,Tryz.ntmps231
  go_wp2_with (go_at_call 281;refine (h1 _).mono ?_;rintro e w' ⟨rfl,rfl⟩)
  go_ret
  exact ⟨rfl,0,_,by rw [alloc_eq_grow,alloc_eq_grow,grow_grow];rfl⟩
theorem xk (x y:Cl):ltOf lX x y=(decide (x.pos<y.pos)||(decide (x.pos=y.pos)&&decide (x.neg<y.neg))):=by
 have h:lX x y<0↔(x.pos<y.pos\/x.pos=y.pos/\x.neg<y.neg):=by
  unfold lX pO
  split<;>split<;>first|omega|(split<;>omega)
 rw [jK]
 simp only [ltOf,decide_eq_true_eq,Bool.or_eq_true,aF]
 exact h
theorem alY:SWO (ltOf lX) where
 irrefl x:=by rw [xk];simp
 trans x y z h1 h2:=by rw [xk] at*;simp at*;omega
 ntrans x y z h1 h2:=by rw [xk] at*;simp at*;omega
theorem amf (x y:Cl) (h1:ltOf lX x y=false) (h2:ltOf lX y x=false):x=y:=by
 rw [xk] at*;simp at*
 obtain ⟨a,b⟩:=x
 obtain ⟨a',b'⟩:=y
 simp at*
 omega
theorem ad6:(fun x y:Cl=> !ltOf lX y x)=nZ:=by
 funext x y
 rw [xk,jK]
 simp [nZ]
 omega
instance:Inhabited Cl:=⟨⟨0,0⟩⟩
theorem alF (b c:Nat) (d:List Cl) (w:World) (hH:HoldsK iD 2 w b 0 d.toArray) (hb:b<w.heap.size) (hsz:d.length<4611686018427387904):
  Calls Tryz.prog 230 #[.slice (some ⟨b,0,none⟩) d.length c,.func (.func 231) #[] #[]] w fun e w'=>e= .returned (.tuple #[])/\ ∃n os,w'=sortWorldK iD 2 w b 0 n (sortCl d).toArray os:=by
 have eg: ∀args w,(callFunc 231 args).run Tryz.prog w= .ok (.enter 231 args) w:=enters_of Tryz.func231 (by kernel_rfl) rfl
 have h:=AnyQ.slices_SortFunc_total Tryz.sortCl 2 Tryz.isAgg53 Tryz.sizeOf53 iD (fun _=>rfl) (fun x v hv=>by simp [iD] at hv;rcases hv with rfl|rfl<;>rfl) lX alY 231 #[] b 0 c d.toArray w eg (fun _ _ _ _ x y=>aaN x y _) hH hb hsz amf
 rw [ad6] at h
 exact h
theorem alG (p:Option Addr) (c:Nat) (w:World):Calls Tryz.prog 230 #[.slice p 0 c,.func (.func 231) #[] #[]] w fun e w'=>e= .returned (.tuple #[])/\w'=w:=
 AnyF.slices_SortFunc_none Tryz.sortCl p c _ w
theorem alE {m:Nat} {d:Array Cl} {os:Array Obj} {w:World} {b k:Nat} (hk:k<w.heap.size) (hne:k≠b):(sortWorldK iD 2 w b 0 m d os).heap[k]? =w.heap[k]? :=by
 unfold sortWorldK putRowK putRow mapBlock
 rw [heap_grow_old _ _ (by simpa [ahead] using hk)]
 show (w.heap.modify b _)[k]? =_
 rw [Array.getElem?_modify,if_neg (Ne.symm hne)]
theorem alD {m:Nat} {d:Array Cl} {os:Array Obj} {w:World} {b:Nat} {cur:Array Value} {e:TypeId} {fr:Nat×Nat} (h:w.heap[b]? =some (.cells cur e fr)):
  (sortWorldK iD 2 w b 0 m d os).heap[b]? =some (.cells (putCells id 0 (flatK iD 2 d) cur) e fr):=by
 have hb:b<w.heap.size:=(f_.1 h).1
 unfold sortWorldK putRowK putRow mapBlock
 rw [heap_grow_old _ _ (by simpa [ahead] using hb)]
 show (w.heap.modify b _)[b]? =_
 rw [Array.getElem?_modify,if_pos rfl,h];rfl
theorem aaL (x:Cl) {k:Nat} {p:PU} (hp:(gD .C x)[k]? =some p):k<2/\ ∀ (X:Link VV Tryz.prog) (w:World) (N:aR) (g:Gh UU),Rep X w N g (iD x)[k]! p:=by
 match k,hp with
 |0,hp=>cases hp;exact ⟨by omega,fun X w N g=> .int _ _⟩
 |1,hp=>cases hp;exact ⟨by omega,fun X w N g=> .int _ _⟩
 |k+2,hp=>simp [gD] at hp
theorem aed {w:World} {b c:Nat} {l:List Cl} {cur:Array Value} {e:TypeId} (hb:w.heap[b]? =some (.cells cur e (0,0))) (hs:cur.size=c*2) (hl:l.length<=c) (h: ∀ (j:Nat) (x:Cl),l[j]? =some x-> ∀k,k<2->w.cell? ⟨b,j*2+k,none⟩=some (iD x)[k]!):HoldsK iD 2 w b 0 l.toArray:=by
 intro t ht
 rw [size_flatK] at ht
 have ht':t<l.length*2:=by simpa using ht
 have hj:t/2<l.length:=by omega
 have hx:l[t/2]? =some l.toArray[t/2]! :=by simp [hj]
 refine ⟨?_, ?_⟩
 ·rw [get_flatK _ _ _ _ ht]
  have:=h _ _ hx (t%2) (Nat.mod_lt _ (by omega))
  rw [fh]
  rw [show t/2*2+t%2=t by omega] at this
  exact this
 ·simp [World.frozen?,hb]
theorem aeo {f:Nat} {ps:List PU} {l l':List Cl} (h:GC f ps l=some l'):f=230/\ps=[.func 231 [] []]/\l'=sortCl l:=by
 unfold GC at h
 split at h
 ·injection h with h
  exact ⟨rfl,rfl,h.symm⟩
 ·cases h
theorem BV (o:Obj):nS (LL o):=by
 intro f ps e l l' h
 have hi:MZ f ps e l=some l':=h
 clear h
 cases e with
 |T=>cases hi
 |B=>cases hi
 |I=>cases hi
 |F=>cases hi
 |C=>
 obtain ⟨rfl,rfl,rfl⟩:=aeo hi
 refine ⟨⟨Tryz.f230,Tryz.func230,by kernel_rfl,rfl⟩,fun w vs N0 δ ο hg hδ=> ?_⟩
 have hs:vs.size=2:=hg.size
 obtain ⟨v0,v1,rfl⟩: ∃v0 v1,vs= #[v0,v1]:=by
  obtain ⟨l⟩:=vs
  match l,hs with
  |[v,v'],_=>exact ⟨v,v',rfl⟩
 have h0:ObOK (LL o) w (NB N0 0 (fun _=>0) δ) (gB UU 0 fun _=>0) ET.C l v0 .wr (δ 0):=hg.args 0 _ rfl
 have h1:Rep (LL o) w (NB N0 0 (fun _=>0) δ) (gB UU 0 fun _=>0) v1 (.func 231 [] []):=hg.args 1 _ rfl
 cases h1 with
 |func _ _ _ xs ys ha hb _ _=>
 have ha':xs= #[]:=by simpa using ha
 have hb':ys= #[]:=by simpa using hb
 subst ha';subst hb'
 obtain ⟨A,n,c,rfl,hl,hc,hcell,hm⟩:=h0.val
 have hl: @g4 Cl l=n:=hl
 cases hD:δ 0 with
 |none=>
  rw [hD] at hm hcell
  obtain ⟨rfl,rfl,rfl⟩:=hm.1 rfl
  have:l=([]:List Cl):=List.length_eq_zero_iff.1 hl
  subst this
  refine (alG none 0 w).mono ?_
  rintro e w' ⟨rfl,rfl⟩
  refine ⟨rfl,.refl _ _, ?_⟩
  rw [hD] at h0
  have:sortCl []=[]:=by simp [sortCl]
  rw [this]
  exact h0
 |some b=>
  rw [hD] at hm hcell
  obtain ⟨hu,cur,rfl,hblk,hsz,hmax⟩:=hm
  have hbl:b<w.heap.size:=(f_.1 hblk).1
  have hcs:cur.size=c*2:=hsz
  have hH:HoldsK iD 2 w b 0 l.toArray:=aed hblk hcs (hl▸hc) fun j x hx k hk=>by
   have hp: ∃p,(gD ET.C x)[k]? =some p/\p= .int .u32 (if k=0 then x.pos else x.neg):=by
    match k,hk with
    |0,_=>exact ⟨_,rfl,rfl⟩
    |1,_=>exact ⟨_,rfl,rfl⟩
   obtain ⟨p,hp,hpe⟩:=hp
   obtain ⟨a,v,ha,hv,hr,_⟩:=hcell j x hx k p hp
   injection ha with ha
   subst ha
   subst hpe
   have hv':w.cell? ⟨b,j*2+k,none⟩=some v:=by
    have:(⟨b,0,none⟩:Addr).add (j*(LL o).esize ET.C+k)=⟨b,j*2+k,none⟩:=by
     rw [Addr.add_lit'];show (⟨b,0+(j*2+k),none⟩:Addr)=_;congr 1;omega
    rw [this] at hv;exact hv
   rw [hv']
   cases hr
   match k,hk with
   |0,_=>rfl
   |1,_=>rfl
  have hlt: @g4 Cl l<4611686018427387904:=by
   have:n<=1099511627776:=hmax.2
   omega
  have hcall:=alF b c l w hH hbl hlt
  have he:(.slice (some ⟨b,0,none⟩) (@g4 Cl l) c:Value)= .slice (some ⟨b,0,none⟩) n c:=by rw [hl]
  rw [he] at hcall
  refine hcall.mono ?_
  rintro e w' ⟨rfl,m,os,rfl⟩
  have hlen:(sortCl l).length= @g4 Cl l:=List.length_mergeSort _
  have hH':=holdsK_sortWorldK_c iD 2 w b 0 l.toArray (sortCl l).toArray m os hH hbl hlen
  refine ⟨rfl,⟨rfl,rfl,rfl,size_sortWorldK_c iD 2 w b 0 m _ os,fun k hk hne=>alE hk fun e=>hne ?_⟩, ?_⟩
  ·subst e
   exact List.mem_append_right _ (List.mem_filterMap.2 ⟨0,by simp,hD⟩)
  ·refine ⟨_,n,c,rfl,hlen.trans hl,hc,fun j x hx k p hp=> ?_, ?_⟩
   ·obtain ⟨hk,hrep⟩:=aaL x hp
    have hj:j<(sortCl l).length:=(cD.1 hx).1
    have:=(hH'.cell (i:=j) (c:=k) (by simpa using hj) hk).1
    have he:(sortCl l).toArray[j]! =x:=by
     have:=cD.1 hx
     rw [getElem!_pos _ j (by simpa using hj)];exact this.2
    rw [he] at this
    refine ⟨_,_,rfl, ?_,hrep _ _ _ _,fun h=>by cases h⟩
    have e:(⟨b,0,none⟩:Addr).add (j*(LL o).esize ET.C+k)=⟨b,0+j*2+k,none⟩:=by
     rw [Addr.add_lit'];show (⟨b,0+(j*2+k),none⟩:Addr)=_;congr 1;omega
    show World.cell? _ (Addr.add _ _)=_
    rw [e];exact this
   ·exact ⟨hu,_,rfl,alD hblk,by simp [putCells];exact hcs,hmax⟩
end Go.Proofs.YtgajalidbabccaaGreatDoor
namespace Go.Proofs.YtgajalidbabccaaGreatDoor
open Go PI Go.ChangeShapes Go.WideShapes Go.ChangeAt Go.RowKit
set_option maxRecDepth 100000
theorem own:ownKnob Tryz.prog.godebug=none:=by kernel_rfl
theorem MI:Tryz.prog.globalNamed "math/bits.deBruijn32tab" =some 0:=by kernel_rfl
section
variable {H:Type} {enc:TypeId×Value->H}
structure Kept (W W':World):Prop where
 os:W'.os=W.os
 output:W'.output=W.output
 size:W.heap.size<=W'.heap.size
 block: ∀b,b<W.heap.size->W'.heap[b]? =W.heap[b]?
theorem Kept.sameAt {W W':World} (h:Kept W W') {p:MemPlace} (hp:p.block<W.heap.size):W.sameAt W' p:=by
 cases p with
 |cell b o=>simp only [World.sameAt,World.cell?];rw [h.block b hp]
 |map b=>exact h.block b hp
theorem Kept.kept {W W':World} (h:Kept W W') (may:MemPlace->Prop):W.keptBut W' may:=by
 refine ⟨h.os,h.output,fun i hi=> ?_⟩
 rw [h.block i hi]
 cases W.heap[i]? with
 |none=>rfl
 |some o=>cases o with
  |cells c t fr=>exact ⟨rfl,rfl,rfl,fun _ _=>rfl⟩
  |map es clock=>exact .inr ⟨rfl,rfl⟩
  |_=>rfl
theorem KG {W W':World} {sp:Nat->Bool} {held:Bool}: ∀ {ts:List TypeId} {vs:List Value} {ds:List (DataW H)} {ps:List MemPlace},
  DataW.TrodAll enc Tryz.prog W 0 sp held ts vs ds ps->(∀p∈ps,W.sameAt W' p)->DataW.TrodAll enc Tryz.prog W' 0 sp held ts vs ds ps
 |[],[],[],_,h,_=>h
 |_::_,_::_,_::_,_,⟨p,q,⟨n,h1⟩,h2,e⟩,hs=>
  ⟨p,q,⟨n,DataW.trod_carry n _ _ _ h1 fun x hx=>hs x (by rw [e];exact List.mem_append_left _ hx)⟩,KG h2 (fun x hx=>hs x (by rw [e];exact List.mem_append_right _ hx)),e⟩
theorem kids:Kids Tryz.prog (· <Tryz.prog.types.size):=kids_rows (by kernel_rfl) (by kernel_rfl)
theorem full: ∀t e,t<Tryz.prog.types.size->Tryz.prog.underlying t=some (.slice e)->0<Tryz.prog.cellsOf e:=slices_full_of Tryz.prog (by kernel_rfl)
theorem aiG {f:Func} {s:ChangeSpec} (hv:s.vars=[]) {fJ fresh handsOn again:Bool} {W W':World} {args:Array Value} {ds gs:List (DataW H)} {before:List MemPlace} (hf:f.resultTypes= #[4])
  (hT: ∀t∈f.params.toList,t<Tryz.prog.types.size) (hs:s.fn H ds={results:=[.lit (.bool true)],args:=ds})
  (hW:DataW.Whole enc Tryz.prog f.params.toList s.vars fJ W args.toList ds gs before) (hk:Kept W W'):s.post enc Tryz.prog f fJ fresh handsOn again W args (.bool true) W':=by
 have hold: ∀p∈before,(fun b=>decide (b<W.heap.size)) p.block=true:=fun p hp=>by simpa using hW.lt p hp
 have hlt: ∀p∈before,p.block<W.heap.size:=fun p hp=>by simpa using hW.lt p hp
 have hW0:=hW
 obtain ⟨p,q,hA,hV,rfl,hz,hn⟩:=hW
 rw [hv] at hV
 obtain ⟨rfl,rfl⟩:=trodVars_none hV
 rw [eU] at hold hlt hz hn hW0
 have hs':s.fn H (ds++[])={results:=[.lit (.bool true)],args:=ds}:=by rw [eU];exact hs
 have hr:(Value.bool true).resultList f.resultTypes.size=[.bool true]:=by rw [hf];rfl
 have hres: ∀ (b:Nat) (sp:Nat->Bool) (hd:Bool),DataW.TrodAll enc Tryz.prog W' b sp hd f.resultTypes.toList ((Value.bool true).resultList f.resultTypes.size) (s.fn H (ds++[])).results []:=fun b sp hd=>by
  rw [hr,hs',hf]
  exact trodAll_cons_mk (shut_bool Tryz.underlying4 _) trodAll_mk0
 have hargs: ∀sp:Nat->Bool,(∀p'∈p,sp p'.block=true)->DataW.TrodAll enc Tryz.prog W' 0 sp true f.params.toList args.toList (s.fn H (ds++[])).args p:=fun sp hsp=>by
  rw [hs']
  exact DataW.TrodAll.respare kids full hT (KG hA fun x hx=>hk.sameAt (hlt x hx)) hsp
 have hvars: ∀sp:Nat->Bool,DataW.TrodVars enc Tryz.prog W' sp s.vars (s.fn H (ds++[])).vars []:=fun sp=>by rw [hv,hs'];rfl
 refine ⟨ds,[],p,[],p,[],hW0,hres _ _ _,hargs _ hold,hvars _,World.keptBut_mono (fun p' hp=>hp.elim) (hk.kept fun _=>False),fun _=> ?_⟩
 refine ⟨fun j t r h1 h2=> ?_,_,_,([]++p)++[],⟨[]++p,[],trodAll_append (hargs _ (fun _ _=>rfl)) (hres _ _ _),hvars _,rfl, ?_, ?_⟩, ?_⟩
 ·rw [hf] at h1
  rw [hr] at h2
  match j,h1,h2 with
  |0,h1,h2=>cases h1;cases h2;exact okWide_bool_mk Tryz.underlying4 _
  |j+1,h1,h2=>simp at h2
 ·intro b off hp
  have hp':MemPlace.cell b off∈p:=by simpa using hp
  have:=hz b off hp'
  simp only [World.frozen?] at this ⊢
  rw [hk.block b (hlt _ hp')]
  exact this
 ·intro ha
  have:=hn ha
  simpa using this
 ·intro p' hp _
  simpa using hp
variable {w:World} {spare:Nat->Bool} {held:Bool} {o:Obj} {N:aR} {g:Gh UU}
theorem Z6 {v:Value} {n:Nat} (h:v.cells.toList.length=n+2): ∃vs:Array Value,v= .agg vs/\vs.toList=v.cells.toList:=by
 cases v with
 |agg vs=>exact ⟨vs,rfl,rfl⟩
 |_=>simp [Value.cells] at h
theorem aak (hN: ∀b o,¬N b o) {v:Value} {d:DataW H} {ps:List MemPlace} (h:DataW.Trod enc Tryz.prog w 0 spare held 26 v d ps): ∃t:Tm,Rep (LL o) w N g v (.agg (gD ET.T t))/\QT t d:=by
 obtain ⟨n,hn⟩:=h
 obtain ⟨t,hr,hq⟩:=(aiw (o:=o) (g:=g) hN n).1 _ _ _ hn
 obtain ⟨_,_,_,_,hl,_,_⟩:=DataW.trod_struct Tryz.underlying26 hn
 have hl6:v.cells.toList.length=6:=hl.trans (by kernel_rfl)
 obtain ⟨vs,rfl,hvs⟩:=Z6 (n:=4) hl6
 refine ⟨t,Rep.agg (X:=LL o) vs (gD ET.T t) (by rw [<-Array.length_toList,hvs,hl6];rfl) fun j p hp=> ?_,hq⟩
 obtain ⟨v',hv',hr'⟩:=hr j p hp
 have:vs.getD j undef=v':=by
  have h2:vs[j]? =some v':=by rw [<-Array.getElem?_toList,hvs];exact hv'
  rw [cH,h2];rfl
 rw [this];exact hr'
theorem ad7 {o:Obj} {W:World} (h0:W.heap[0]? =some o) {vs:Array Value} {ps:List PU} (hs:vs.size=ps.length) (hp:ps.all PV.notFresh=true)
  (h: ∀ (j:Nat) p,ps[j]? =some p->Rep (LL o) W (NB (fun _ _=>False) 0 (fun _=>0) fun _=>none) (gB UU 0 fun _=>0) (vs.getD j undef) p):Given (LL o) W vs (fun _ _=>False) (fun _=>0) (fun _=>none) (fun _=> #[]) ps [] where
 bnd:=⟨fun i j hi=>absurd hi (Nat.not_lt_zero i),fun i hi=>absurd hi (Nat.not_lt_zero i),fun j b h=>(by cases h),fun i j b h=>(by cases h),fun j b h=>(by cases h),fun b o h=>h.elim⟩
 size:=hs
 dom:=fun j b h=>by cases h
 glob:=fun b o' hb=>by
  simp [LL] at hb
  obtain ⟨rfl,rfl⟩:=hb
  exact ⟨h0,fun i hi=>absurd hi (Nat.not_lt_zero i),fun j h=>by cases h⟩
 args:=fun j p hj=>RepG.of (h j p hj)
 boxes:=fun k b h=>by simp at h
 oz:=fun _ _=>rfl
theorem noN: ∀b o,¬NB (fun _ _=>False) 0 (fun _=>0) (fun _=>none) b o:=by
 rintro b o (h|⟨k,hk,_⟩|⟨j,h⟩)
 ·exact h
 ·exact absurd hk (Nat.not_lt_zero k)
 ·cases h
theorem aaD {o:Obj} {f:FuncId} {ps:List PU} (hok:d5 (LL o) f ps [] (.ret (.bool true) [])) {W:World} {vs:Array Value} (hg:Given (LL o) W vs (fun _ _=>False) (fun _=>0) (fun _=>none) (fun _=> #[]) ps []):
  Calls Tryz.prog f vs W fun e W'=>e= .returned (.bool true)/\Kept W W':=by
 refine (hok.2 W vs _ _ _ _ hg).mono ?_
 rintro e W' he
 cases e with
 |returned rv=>
  obtain ⟨ν',δ',hb,hr⟩:=he
  have hr:Rep (LL o) W' _ _ rv (.bool true):=hr
  cases hr
  refine ⟨rfl,hb.ext.os,hb.ext.output,hb.ext.size,fun b hb'=>hb.ext.block b hb' fun hm=> ?_⟩
  simp [qH] at hm
 |panicked ch=>exact he.elim
 |outgrown=>exact he.elim
theorem al0 {H:Type}:(Rows.laid_math_bits_deBruijn32tab:DataW H)=Lib.tabData .u8 (Lib.deBruijn32tab.map fun n:Nat=>(n:Int)):=rfl
theorem al1 {W:World} (h:laidMetH Tryz.prog [("math/bits.deBruijn32tab",Rows.laid_math_bits_deBruijn32tab)] W): ∃o,ai o/\W.heap[0]? =some o:=by
 have h':laidMet Tryz.prog [("math/bits.deBruijn32tab",Rows.laid_math_bits_deBruijn32tab)] W:=h
 rw [al0] at h'
 have ht:Lib.TabIs Tryz.prog W "math/bits.deBruijn32tab" .u8 (Lib.deBruijn32tab.map fun n:Nat=>(n:Int)):=
  Lib.tabIs_of_head (rest:=[]) MI (by kernel_rfl) Tryz.underlying234 Tryz.underlying5 (by kernel_rfl) (by kernel_rfl) h'
 have hc: ∀j,j<Lib.deBruijn32tab.length->W.cell? ⟨0,j,none⟩=some (.int .u8 (Lib.deBruijn32tab.getD j 0:Nat)):=fun j hj=>by
  rw [ht.cell MI j (by simpa using hj)]
  simp [List.getD,hj]
 have h0:=hc 0 (by decide)
 cases hh:W.heap[0]? with
 |none=>simp [World.cell?,hh] at h0
 |some o=>
  cases o with
  |cells cur e fr=>
   refine ⟨_,⟨cur,e,fr,rfl,fun j hj=> ?_⟩,rfl⟩
   have:=hc j hj
   simpa [World.cell?,hh] using this
  |_=>simp [World.cell?,hh] at h0
end
end Go.Proofs.YtgajalidbabccaaGreatDoor
namespace Go.Proofs.YtgajalidbabccaaGreatDoor
open Go PI
set_option maxRecDepth 100000
noncomputable section
abbrev Rw (S:Type):=List PU->List (Box UU)->(Out UU->Option S)->Option S
abbrev Kn (S:Type):=(Out UU->Option S)->Option S
noncomputable def iI (n:Int):PU:= .int .i64 n
noncomputable def iU (n:Int):PU:= .int .u32 n
noncomputable def pt (i:Nat):PU:= .ptr i 0
noncomputable def aT (t:Tm):PU:= .agg [.int .i64 t.kind,.int .i64 t.n,.str t.name,dP t.r .none,hU t.kids .none,eS t.sys .none]
noncomputable def aC (c:Cl):PU:= .agg [.int .u32 c.pos,.int .u32 c.neg]
noncomputable def aB (b:Br Tm):PU:= .agg [dP b.face .none,hU b.kids .none]
noncomputable def bT (t:Tm):Box UU:= .cells [.int .i64 t.kind,.int .i64 t.n,.str t.name,dP t.r .none,hU t.kids .none,eS t.sys .none]
noncomputable def bC (c:Cl):Box UU:= .cells [.int .u32 c.pos,.int .u32 c.neg]
noncomputable def bB (b:Br Tm):Box UU:= .cells [dP b.face .none,hU b.kids .none]
noncomputable def bI (n:Int):Box UU:= .cells [.int .i64 n]
noncomputable def bb (b:Bool):Box UU:= .cells [.bool b]
noncomputable def sC (l:List Cl):PU:=dP l .none
noncomputable def sT (l:List Tm):PU:=hU l .none
noncomputable def sB (l:List (Br Tm)):PU:=eS l .none
structure Cd where
 D:Type->Type
 k:{ρ:Type}->ρ->D ρ
 dec:{ρ:Type}->D ρ->PU->Option ρ
 A:{ρ:Type}->D ρ->(PU->ρ->Prop)->Prop
 law: ∀ {ρ:Type} (f:D ρ) (v:PU) (r:ρ) (Q:PU->ρ->Prop),A f Q->dec f v=some r->Q v r
structure Cs where
 D:Type->Type
 n:Nat
 k:{ρ:Type}->ρ->D ρ
 dec:{ρ:Type}->D ρ->List PU->Option ρ
 A:{ρ:Type}->D ρ->(List PU->ρ->Prop)->Prop
 law: ∀ {ρ:Type} (f:D ρ) (v:List PU) (r:ρ) (Q:List PU->ρ->Prop),A f Q->dec f v=some r->Q v r
 len: ∀ {ρ:Type} (f:D ρ) (v:List PU) (r:ρ),dec f v=some r->v.length=n
structure Bs where
 D:Type->Type
 n:Nat
 k:{ρ:Type}->ρ->D ρ
 dec:{ρ:Type}->D ρ->List (Box UU)->Option ρ
 A:{ρ:Type}->D ρ->(List (Box UU)->ρ->Prop)->Prop
 law: ∀ {ρ:Type} (f:D ρ) (v:List (Box UU)) (r:ρ) (Q:List (Box UU)->ρ->Prop),A f Q->dec f v=some r->Q v r
 len: ∀ {ρ:Type} (f:D ρ) (v:List (Box UU)) (r:ρ),dec f v=some r->v.length=n
noncomputable def cn:Cs where
 D ρ:=ρ
 n:=0
 k r:=r
 dec f:=fun|[]=>some f|_=> .none
 A f Q:=Q [] f
 law f v r Q h e:=by split at e<;>cases e;exact h
 len f v r e:=by split at e<;>cases e;rfl
noncomputable def cc (c:Cd) (s:Cs):Cs where
 D ρ:=c.D (s.D ρ)
 n:=s.n+1
 k r:=c.k (s.k r)
 dec f:=fun|v::l=>(c.dec f v).bind fun g=>s.dec g l|[]=> .none
 A f Q:=c.A f fun v g=>s.A g fun l r=>Q (v::l) r
 law f v r Q h e:=by
  split at e
  ·obtain ⟨g,h1,h2⟩:=Option.bind_eq_some_iff.1 e
   have:=s.law g _ r _ (c.law f _ g _ h h1) h2;exact this
  ·cases e
 len f v r e:=by
  split at e
  ·obtain ⟨g,h1,h2⟩:=Option.bind_eq_some_iff.1 e
   simp [s.len g _ r h2]
  ·cases e
noncomputable def xn:Bs where
 D ρ:=ρ
 n:=0
 k r:=r
 dec f:=fun|[]=>some f|_=> .none
 A f Q:=Q [] f
 law f v r Q h e:=by split at e<;>cases e;exact h
 len f v r e:=by split at e<;>cases e;rfl
noncomputable def xc (c:Cs) (s:Bs):Bs where
 D ρ:=c.D (s.D ρ)
 n:=s.n+1
 k r:=c.k (s.k r)
 dec f:=fun| .cells v::l=>(c.dec f v).bind fun g=>s.dec g l|_=> .none
 A f Q:=c.A f fun v g=>s.A g fun l r=>Q (.cells v::l) r
 law f v r Q h e:=by
  split at e
  ·obtain ⟨g,h1,h2⟩:=Option.bind_eq_some_iff.1 e
   have:=s.law g _ r _ (c.law f _ g _ h h1) h2;exact this
  ·cases e
 len f v r e:=by
  split at e
  ·obtain ⟨g,h1,h2⟩:=Option.bind_eq_some_iff.1 e
   simp [s.len g _ r h2]
  ·cases e
noncomputable def cI:Cd where
 D ρ:=Int->ρ
 k r:=fun _=>r
 dec f:=fun| .int .i64 n=>some (f n)|_=> .none
 A f Q:= ∀n:Int,Q (iI n) (f n)
 law f v r Q h e:=by split at e<;>cases e;exact h _
noncomputable def cU:Cd where
 D ρ:=Int->ρ
 k r:=fun _=>r
 dec f:=fun| .int .u32 n=>some (f n)|_=> .none
 A f Q:= ∀n:Int,Q (iU n) (f n)
 law f v r Q h e:=by split at e<;>cases e;exact h _
noncomputable def cN (kd:IntKind):Cd where
 D ρ:=Int->ρ
 k r:=fun _=>r
 dec f:=fun| .int q n=>(match decEq q kd with| .isTrue _=>some (f n)| .isFalse _=> .none)|_=> .none
 A f Q:= ∀n:Int,Q (.int kd n) (f n)
 law f v r Q h e:=by
  split at e
  ·split at e
   ·rename_i hq _;subst hq;cases e;exact h _
   ·cases e
  ·cases e
noncomputable def cb:Cd where
 D ρ:=Bool->ρ
 k r:=fun _=>r
 dec f:=fun| .bool n=>some (f n)|_=> .none
 A f Q:= ∀n:Bool,Q (.bool n) (f n)
 law f v r Q h e:=by split at e<;>cases e;exact h _
noncomputable def cs:Cd where
 D ρ:=ByteArray->ρ
 k r:=fun _=>r
 dec f:=fun| .str n=>some (f n)|_=> .none
 A f Q:= ∀n:ByteArray,Q (.str n) (f n)
 law f v r Q h e:=by split at e<;>cases e;exact h _
noncomputable def lC:Cd where
 D ρ:=List Cl->ρ
 k r:=fun _=>r
 dec f:=fun| .sl .C n .none=>some (f n)|_=> .none
 A f Q:= ∀n:List Cl,Q (sC n) (f n)
 law f v r Q h e:=by split at e<;>cases e;exact h _
noncomputable def lT:Cd where
 D ρ:=List Tm->ρ
 k r:=fun _=>r
 dec f:=fun| .sl .T n .none=>some (f n)|_=> .none
 A f Q:= ∀n:List Tm,Q (sT n) (f n)
 law f v r Q h e:=by split at e<;>cases e;exact h _
noncomputable def lB:Cd where
 D ρ:=List (Br Tm)->ρ
 k r:=fun _=>r
 dec f:=fun| .sl .B n .none=>some (f n)|_=> .none
 A f Q:= ∀n:List (Br Tm),Q (sB n) (f n)
 law f v r Q h e:=by split at e<;>cases e;exact h _
noncomputable def lI:Cd where
 D ρ:=List Int->ρ
 k r:=fun _=>r
 dec f:=fun| .sl .I n .none=>some (f n)|_=> .none
 A f Q:= ∀n:List Int,Q (po n .none) (f n)
 law f v r Q h e:=by split at e<;>cases e;exact h _
noncomputable def lF:Cd where
 D ρ:=List (List Cl)->ρ
 k r:=fun _=>r
 dec f:=fun| .sl .F n .none=>some (f n)|_=> .none
 A f Q:= ∀n:List (List Cl),Q (Ds n .none) (f n)
 law f v r Q h e:=by split at e<;>cases e;exact h _
noncomputable def hC:Cd where
 D ρ:=List Cl->ρ
 k r:=fun _=>r
 dec f:=fun| .fresh .C n=>some (f n)|_=> .none
 A f Q:= ∀n:List Cl,Q (Gs n) (f n)
 law f v r Q h e:=by split at e<;>cases e;exact h _
noncomputable def hT:Cd where
 D ρ:=List Tm->ρ
 k r:=fun _=>r
 dec f:=fun| .fresh .T n=>some (f n)|_=> .none
 A f Q:= ∀n:List Tm,Q (MD n) (f n)
 law f v r Q h e:=by split at e<;>cases e;exact h _
noncomputable def hB:Cd where
 D ρ:=List (Br Tm)->ρ
 k r:=fun _=>r
 dec f:=fun| .fresh .B n=>some (f n)|_=> .none
 A f Q:= ∀n:List (Br Tm),Q (p7 n) (f n)
 law f v r Q h e:=by split at e<;>cases e;exact h _
noncomputable def nB:Cd where
 D ρ:=ρ
 k r:=r
 dec f:=fun| .sl .B l .nil=>(match (l:List (Br Tm)) with|[]=>some f|_::_=> .none)|_=> .none
 A f Q:=Q (eS [] .nil) f
 law f v r Q h e:=by
  split at e
  ·split at e
   ·cases e;exact h
   ·cases e
  ·cases e
noncomputable def cT:Cd where
 D ρ:=Tm->ρ
 k r:=fun _=>r
 dec f:=fun| .agg [.int .i64 a,.int .i64 b,.str c,.sl .C d .none,.sl .T e .none,.sl .B g .none]=>some (f (Tm.mk a b c d e g))|_=> .none
 A f Q:= ∀t:Tm,Q (aT t) (f t)
 law f v r Q h e:=by split at e<;>cases e;exact h (Tm.mk _ _ _ _ _ _)
noncomputable def cC:Cd where
 D ρ:=Cl->ρ
 k r:=fun _=>r
 dec f:=fun| .agg [.int .u32 a,.int .u32 b]=>some (f ⟨a,b⟩)|_=> .none
 A f Q:= ∀t:Cl,Q (aC t) (f t)
 law f v r Q h e:=by split at e<;>cases e;exact h (⟨_,_⟩)
noncomputable def cB:Cd where
 D ρ:=Br Tm->ρ
 k r:=fun _=>r
 dec f:=fun| .agg [.sl .C a .none,.sl .T b .none]=>some (f (Br.mk a b))|_=> .none
 A f Q:= ∀t:Br Tm,Q (aB t) (f t)
 law f v r Q h e:=by split at e<;>cases e;exact h (Br.mk _ _)
noncomputable def xT (s:Bs):Bs where
 D ρ:=Tm->s.D ρ
 n:=s.n+1
 k r:=fun _=>s.k r
 dec f:=fun| .cells [.int .i64 a,.int .i64 b,.str c,.sl .C d .none,.sl .T e .none,.sl .B g .none]::l=>s.dec (f (Tm.mk a b c d e g)) l|_=> .none
 A f Q:= ∀t:Tm,s.A (f t) fun l r=>Q (bT t::l) r
 law f v r Q h e:=by
  split at e
  ·have:=s.law _ _ r _ (h (Tm.mk _ _ _ _ _ _)) e;exact this
  ·cases e
 len f v r e:=by
  split at e
  ·simp [s.len _ _ r e]
  ·cases e
noncomputable def xC (s:Bs):Bs where
 D ρ:=Cl->s.D ρ
 n:=s.n+1
 k r:=fun _=>s.k r
 dec f:=fun| .cells [.int .u32 a,.int .u32 b]::l=>s.dec (f ⟨a,b⟩) l|_=> .none
 A f Q:= ∀t:Cl,s.A (f t) fun l r=>Q (bC t::l) r
 law f v r Q h e:=by
  split at e
  ·have:=s.law _ _ r _ (h (⟨_,_⟩)) e;exact this
  ·cases e
 len f v r e:=by
  split at e
  ·simp [s.len _ _ r e]
  ·cases e
noncomputable def xI (s:Bs):Bs where
 D ρ:=Int->s.D ρ
 n:=s.n+1
 k r:=fun _=>s.k r
 dec f:=fun| .cells [.int .i64 a]::l=>s.dec (f a) l|_=> .none
 A f Q:= ∀t:Int,s.A (f t) fun l r=>Q (bI t::l) r
 law f v r Q h e:=by
  split at e
  ·have:=s.law _ _ r _ (h _) e;exact this
  ·cases e
 len f v r e:=by
  split at e
  ·simp [s.len _ _ r e]
  ·cases e
noncomputable def cp (i:Nat):Cd where
 D ρ:=ρ
 k r:=r
 dec f:=fun| .ptr j 0=>(match decEq j i with| .isTrue _=>some f| .isFalse _=> .none)|_=> .none
 A f Q:=Q (pt i) f
 law f v r Q h e:=by
  split at e
  ·split at e
   ·rename_i hq _;subst hq;cases e;exact h
   ·cases e
  ·cases e
noncomputable def cg (s:Cs):Cd where
 D ρ:=s.D ρ
 k r:=s.k r
 dec f:=fun| .agg l=>s.dec f l|_=> .none
 A f Q:=s.A f fun l r=>Q (.agg l) r
 law f v r Q h e:=by
  split at e
  ·have:=s.law f _ r _ h e;exact this
  ·cases e
noncomputable def cf (i:Nat) (s:Cs) (u:Cs):Cd where
 D ρ:=s.D (u.D ρ)
 k r:=s.k (u.k r)
 dec f:=fun| .func j l m=>(match decEq j i with| .isTrue _=>(s.dec f l).bind fun g=>u.dec g m| .isFalse _=> .none)|_=> .none
 A f Q:=s.A f fun l g=>u.A g fun m r=>Q (.func i l m) r
 law f v r Q h e:=by
  split at e
  ·split at e
   ·rename_i hq _
    subst hq
    obtain ⟨g,h1,h2⟩:=Option.bind_eq_some_iff.1 e
    have:=u.law g _ r _ (s.law f _ g _ h h1) h2;exact this
   ·cases e
  ·cases e
noncomputable def ah {S:Type} (K:Cs) (B:Bs) (F:K.D (B.D (Kn S))):Rw S:=fun vs bs κ=>(K.dec F vs).bind fun g=>(B.dec g bs).bind fun h=>h κ
noncomputable def p6 (K:Cs) (B:Bs) (vs:List PU) (bs:List (Box UU)):Bool:=((K.dec (K.k (B.k ())) vs).bind fun g=>B.dec g bs).isSome
noncomputable def AA {S:Type} (K:Cs) (B:Bs) (F:K.D (B.D (Kn S))) (Q:List PU->List (Box UU)->Kn S->Prop):Prop:=K.A F fun vs g=>B.A g fun bs h=>Q vs bs h
theorem xN {S:Type} {K:Cs} {B:Bs} {F:K.D (B.D (Kn S))} {Q:List PU->List (Box UU)->Kn S->Prop} (hA:AA K B F Q) {vs:List PU} {bs:List (Box UU)} {κ:Out UU->Option S} {x:S} (h:ah K B F vs bs κ=some x):
  ∃g,Q vs bs g/\g κ=some x/\vs.length=K.n/\bs.length=B.n:=by
 obtain ⟨g,h1,h2⟩:=Option.bind_eq_some_iff.1 h
 obtain ⟨u,h3,h4⟩:=Option.bind_eq_some_iff.1 h2
 have:=K.law F vs g _ hA h1
 have:=B.law g bs u _ this h3
 exact ⟨u,this,h4,K.len _ _ _ h1,B.len _ _ _ h3⟩
noncomputable def Tl {S:Type} (o:Obj) (f:Nat) (r:Rw S):Prop:= ∀vs bs κ x,r vs bs κ=some x-> ∃out,d5 (LL o) f vs bs out/\κ out=some x
noncomputable def xQ {S:Type}:List (Nat×Rw S)->Oracle UU S
 |[],_,_,_,_=> .none
 |(g,r)::l,f,vs,bs,κ=>bif ay f g then r vs bs κ else xQ l f vs bs κ
noncomputable def TA {S:Type} (o:Obj):List (Nat×Rw S)->Prop
 |[]=>True
 |(f,r)::l=>Tl o f r/\TA o l
theorem TA.tells {S:Type} {o:Obj}: ∀ {l:List (Nat×Rw S)},TA o l->(xQ l).Tells (d5 (LL o))
 |[],_,f,vs,bs,κ,x,h=>by cases h
 |(g,r)::l,hl,f,vs,bs,κ,x,h=>by
  unfold xQ at h
  cases hb:ay f g with
  |true=>
   rw [hb] at h
   have:=Nat.eq_of_beq_eq_true hb
   subst this
   exact hl.1 _ _ _ _ h
  |false=>
   rw [hb] at h
   exact TA.tells hl.2 _ _ _ _ _ h
noncomputable def nz {S:Type} (b:List PU->List (Box UU)->Bool) (r q:Rw S):Rw S:=fun vs bs κ=>bif b vs bs then r vs bs κ else q vs bs κ
theorem qO {S:Type} {o:Obj} {f:Nat} {b:List PU->List (Box UU)->Bool} {r q:Rw S} (h1:Tl o f r) (h2:Tl o f q):Tl o f (nz b r q):=fun vs bs κ x h=>by
 unfold nz at h
 rcases aar h with h|h
 ·exact h1 _ _ _ _ h
 ·exact h2 _ _ _ _ h
structure Fx (S:Type) where
 sd:Side UU
 rows:List (Nat×Rw S)
 loops:List (Nat×Ann×List Bool)
 k:Nat
 fn:Func
 kp:Bool
 hn:List Bool
 nb:Nat
 cd:Option (PU->Oracle UU S)
noncomputable def KJ:List (Nat×Ann×List Bool)->Nat->Option Ann
 |[],_=> .none
 |(i,a,_)::l,n=>bif ay n i then some a else KJ l n
noncomputable def Hf:List (Nat×Ann×List Bool)->Nat->Ann×List Bool
 |[],_=>(⟨[],[]⟩,[])
 |(i,a)::l,n=>bif ay n i then a else Hf l n
noncomputable def ce (rs:List Nat) (bs:List (Nat×Nat)):Ann:=⟨rs.map fun n=>(n,.none),bs.map fun p=>(p.1,List.replicate p.2 .none)⟩
noncomputable def aA:Nat->Nat->List Bool
 |0,_=>[]
 |n+1,b=>ay (b%2) 1::aA n (b/2)
noncomputable def fx {S:Type} (nt:Nat) (gv:Nat->List Bool) (ip:Nat->Bool) (rows:List (Nat×Rw S)) (loops:List (Nat×Ann×List Bool)) (k:Nat) (fn:Func) (kp:Bool) (hn:List Bool) (nb:Nat):Fx S:=
 ⟨⟨nt,gv,ip,.none,fun _=>false⟩,rows,loops,k,fn,kp,hn,nb,.none⟩
noncomputable def fp {S:Type} (nt:Nat) (rows:List (Nat×Rw S)) (loops:List (Nat×Ann×List Bool)) (k:Nat) (fn:Func) (nb:Nat):Fx S:=fx nt (fun _=>[]) (fun _=>false) rows loops k fn false [] nb
variable {S:Type}
noncomputable def Fx.oc (F:Fx S):Oracle UU S:=xQ F.rows
noncomputable def Fx.an (F:Fx S):Nat->Option Ann:=KJ F.loops
noncomputable def Fx.go (F:Fx S) (c:Code) (σ:St UU) (κ:Ex UU->St UU->Option S):Option S:=PI.run VV F.sd F.oc F.an F.k c σ κ
noncomputable def Fx.kt (F:Fx S) (κ:Out UU->Option S) (p:List Bool) (κs:List (St UU->Option S)):Ex UU->St UU->Option S:=match F.cd with
 | .none=>m8 VV F.sd F.oc F.an F.k (kw F.fn) p κs F.an (kF VV F.oc F.kp F.hn F.fn F.nb κ)
 |some C=>Ny VV F.sd F.oc F.an F.k (kw F.fn) p κs F.an (kF VV F.oc F.kp F.hn F.fn F.nb κ) (kD VV F.oc C F.kp F.hn F.fn F.nb κ)
noncomputable def Fx.run (F:Fx S) (vs:List PU) (bs:List (Box UU)) (κ:Out UU->Option S):Option S:=match F.cd with
 | .none=>uh VV F.sd F.oc F.an F.k F.kp F.hn F.fn vs bs κ
 |some C=>IE VV F.sd F.oc F.an F.k C F.kp F.hn F.fn vs bs κ
noncomputable def Fx.A (F:Fx S) (i:Nat):Ann:=(Hf F.loops i).1
noncomputable def Fx.p (F:Fx S) (i:Nat):List Bool:=(Hf F.loops i).2
noncomputable def Fx.lp (F:Fx S) (κ:Out UU->Option S) (i:Nat) (κs:List (St UU->Option S)) (n:Nat) (σ:St UU):Option S:=
 xj (gO (F.A i)) (fun σ κ=>F.go (la (kw F.fn) (F.p i++[false])) σ κ) n σ (F.kt κ (F.p i) κs)
noncomputable def Fx.st (F:Fx S) (κ:Out UU->Option S) (i:Nat) (κs:List (St UU->Option S)) (r:St UU->Option S) (σ:St UU):Option S:=
 F.go (la (kw F.fn) (F.p i++[false])) σ (back (gO (F.A i)) r (F.kt κ (F.p i) κs))
noncomputable def Fx.jn (F:Fx S) (κ:Out UU->Option S) (i:Nat) (κs:List (St UU->Option S)) (n:Nat) (σ:St UU):Option S:=
 GI (fun σ κ=>F.go (la (kw F.fn) (F.p i)) σ κ) n σ (F.kt κ (F.p i) κs)
noncomputable def Fx.sj (F:Fx S) (κ:Out UU->Option S) (i:Nat) (κs:List (St UU->Option S)) (σ:St UU):Option S:=F.go (la (kw F.fn) (F.p i)) σ (F.kt κ (F.p i) κs)
theorem Fx.lp_succ (F:Fx S) (κ:Out UU->Option S) (i:Nat) (κs:List (St UU->Option S)) (n:Nat) (σ:St UU):F.lp κ i κs (n+1) σ=F.st κ i κs (fun τ=>F.lp κ i κs n τ) σ:=rfl
theorem Fx.jn_succ (F:Fx S) (κ:Out UU->Option S) (i:Nat) (κs:List (St UU->Option S)) (n:Nat) (σ:St UU):F.jn κ i κs (n+1) σ=F.sj κ i κs σ:=rfl
noncomputable def tQ (F:Fx S) (n m:Nat):Bool:=(F.fn.name== "runtime.NumGoroutine")==false&&(F.fn.body.isNone==false&&(ay F.fn.ntmps F.sd.nt&&(dr F.sd.nt 1000000&&(dr n F.sd.nt&&dr m 1000000))))
theorem HG {F:Fx S} {n m:Nat} (h:tQ F n m=true):(F.fn.name== "runtime.NumGoroutine")=false/\F.fn.body.isNone=false/\F.fn.ntmps=F.sd.nt/\F.sd.nt<=1000000/\n<=F.sd.nt/\m<=1000000:=by
 unfold tQ at h
 simp only [aF,beq_iff_eq] at h
 obtain ⟨h1,h2,h3,h4,h5,h6⟩:=h
 exact ⟨h1,h2,Nat.eq_of_beq_eq_true h3,Nat.le_of_ble_eq_true h4,Nat.le_of_ble_eq_true h5,Nat.le_of_ble_eq_true h6⟩
theorem tlG {o:Obj} {K:Cs} {B:Bs} {R:K.D (B.D (Kn S))} (F:Fx S) {f:FuncId} (ht:TA o F.rows) (hf:Tryz.prog.funcs[f]? =some F.fn) (hb:tQ F K.n B.n=true) (run:AA K B R fun vs bs g=> ∀κ x,g κ=some x->F.run vs bs κ=some x)
  (h1:F.sd.rcv= .none:=by rfl) (h2:F.sd.pin=(fun _=>false):=by rfl) (h3:F.cd= .none:=by rfl):Tl o f (ah K B R):=fun vs bs κ x h=>by
 obtain ⟨g,hg,hx,hl,hm⟩:=xN run h
 have hr:=hg κ x hx
 unfold Fx.run at hr
 rw [h3] at hr
 obtain ⟨b1,b2,b3,b4,b5,b6⟩:=HG hb
 exact sw (SX Ce (BV o) h1 h2 ht.tells hf b1 b2 b3 b4 (by omega) hr)
open Classical in
noncomputable def Fl {S:Type} (bs:List (Box UU)) (κ:Out UU->Option S):Out UU->Option S
 | .ret v cs=>if cs=bs then κ (.ret v []) else .none
 | .panic .. => .none
theorem tlS {S:Type} {o:Obj} {K:Cs} {B:Bs} {R:K.D (B.D (Kn S))} {f:FuncId} {r:Rw S} (h:Tl o f r) (run:AA K B R fun vs bs g=> ∀κ x,g κ=some x->r vs bs (Fl bs κ)=some x):Tl o f (ah K B R):=fun vs bs κ x hx=>by
 obtain ⟨g,hg,hx,_⟩:=xN run hx
 obtain ⟨out,hok,hκ⟩:=h _ _ _ _ (hg κ x hx)
 cases out with
 |panic v cs=>cases hκ
 |ret v cs=>
  simp only [Fl] at hκ
  split at hκ
  case isFalse=>cases hκ
  rename_i hc
  subst hc
  refine ⟨.ret v [], ?_,hκ⟩
  have e:Out.full cs (.ret v [])=Out.full cs (.ret v cs):=by
   have hb:dr cs.length cs.length=true:=by simp
   simp only [Out.full,hb,cond_true]
   cases cs<;>rfl
  unfold d5
  rw [e]
  exact hok
open Classical in
noncomputable def vH {S:Type} (n m:Nat) (bs:List (Box UU)) (κ:Out UU->Option S):Out UU->Option S
 | .ret v cs=>match cs[n]? with
  |some (.cells a)=>if dr bs.length 1=false/\nA bs [.cells (.int .i64 n::a.take m)]=cs then κ (.ret v [.cells (.int .i64 n::a.take m)]) else .none
  |_=> .none
 | .panic .. => .none
theorem Kl {S:Type} {o:Obj} {K:Cs} {B:Bs} {R:K.D (B.D (Kn S))} {f:FuncId} {r:Rw S} {n m:Nat} (h:Tl o f r) (run:AA K B R fun vs bs g=> ∀κ x,g κ=some x->r vs bs (vH n m bs κ)=some x):Tl o f (ah K B R):=fun vs bs κ x hx=>by
 obtain ⟨g,hg,hx,_⟩:=xN run hx
 obtain ⟨out,hok,hκ⟩:=h _ _ _ _ (hg κ x hx)
 cases out with
 |panic v cs=>cases hκ
 |ret v cs=>
  simp only [vH] at hκ
  split at hκ
  case h_2=>cases hκ
  rename_i a ha
  split at hκ
  case isFalse=>cases hκ
  rename_i hc
  obtain ⟨hl,hc⟩:=hc
  refine ⟨.ret v _, ?_,hκ⟩
  have e:Out.full bs (.ret v [.cells (.int .i64 n::a.take m)])=Out.full bs (.ret v cs):=by
   have h1:Out.full bs (.ret v [.cells (.int .i64 n::a.take m)])= .ret v cs:=by
    simp only [Out.full]
    rw [show [(Box.cells (.int .i64 n::a.take m):Box UU)].length=1 from rfl,hl,cond_false,hc]
   have h2:cs.length=bs.length:=by
    rw [<-hc];unfold nA;split<;>(try split)<;>simp
   have h3:dr bs.length cs.length=true:=by rw [h2];simp
   rw [h1]
   simp only [Out.full,h3,cond_true]
  unfold d5
  rw [e]
  exact hok
theorem jh {o:Obj} {K:Cs} {B:Bs} {R:K.D (B.D (Kn S))} {f:FuncId} (h0:AA K B R fun vs bs g=> ∀κ x,g κ=some x->False):Tl o f (ah K B R):=fun vs bs κ x h=>by
 obtain ⟨g,hg,hx,_⟩:=xN h0 h
 exact (hg κ x hx).elim
noncomputable def Ae (nt f:Nat) (fn:Func) (k:Nat):PU->Oracle UU S:=fun v g vs bs κ=>bif ay g f&&dr vs.length nt then IF VV ⟨nt,fun _=>[],fun _=>false,.none,fun _=>false⟩ (xQ []) (fun _=> .none) k true [] fn v vs bs κ else .none
theorem K7 (o:Obj) {nt f:Nat} {fn:Func} {k:Nat} (hf:Tryz.prog.funcs[f]? =some fn) (hb:tQ (fp nt [] [] k fn 0:Fx S) 0 0=true): ∀v u u',RcvOK v u u'->(Ae (S:=S) nt f fn k v).Tells (lR (LL o) (mK Tryz.prog u u')):=by
 intro v u u' hv g vs bs κ x h
 unfold Ae at h
 cases hc:ay g f&&dr vs.length nt with
 |false=>rw [hc] at h;cases h
 |true=>
  rw [hc] at h
  rw [aF] at hc
  have:=Nat.eq_of_beq_eq_true hc.1
  subst this
  obtain ⟨b1,b2,b3,b4,_,_⟩:=HG hb
  exact sw (ajV Ce (BV o) rfl rfl (TA.tells (l:=[]) (o:=o) trivial) hf b1 b2 b3 b4 hv (Nat.le_of_ble_eq_true hc.2) h)
theorem Um {o:Obj} {K:Cs} {B:Bs} {R:K.D (B.D (Kn S))} (F:Fx S) {f:FuncId} {C:PU->Oracle UU S} (h3:F.cd=some C) (hC: ∀v u u',RcvOK v u u'->(C v).Tells (lR (LL o) (mK Tryz.prog u u'))) (ht:TA o F.rows) (hf:Tryz.prog.funcs[f]? =some F.fn) (hb:tQ F K.n B.n=true)
  (run:AA K B R fun vs bs g=> ∀κ x,g κ=some x->F.run vs bs κ=some x) (h1:F.sd.rcv= .none:=by rfl):Tl o f (ah K B R):=fun vs bs κ x h=>by
 obtain ⟨g,hg,hx,hl,hm⟩:=xN run h
 have hr:=hg κ x hx
 unfold Fx.run at hr
 rw [h3] at hr
 obtain ⟨b1,b2,b3,b4,b5,b6⟩:=HG hb
 exact sw (ajT Ce (BV o) h1 ht.tells hC hf b1 b2 b3 b4 (by omega) (by omega) hr)
theorem am {o:Obj} {K:Cs} {B:Bs} {R:K.D (B.D (Kn S))} (F:Fx S) {f:FuncId} (ht:TA o F.rows) (hf:Tryz.prog.funcs[f]? =some F.fn) (run:AA K B R fun vs bs g=> ∀κ x,g κ=some x->F.run vs bs κ=some x) (hb:tQ F K.n B.n=true:=by kernel_rfl)
  (h1:F.sd.rcv= .none:=by rfl) (h2:F.sd.pin=(fun _=>false):=by rfl) (h3:F.cd= .none:=by rfl):Tl o f (ah K B R):=tlG F ht hf hb run h1 h2 h3
theorem oH {F:Fx S} {κ:Out UU->Option S} {i:Nat} {κs:List (St UU->Option S)} {mk:St UU} {l:Nat->Option S} (b:Option S) (h0:l 0= .none:=by rfl) (hs: ∀n,l (n+1)=b:=by intros;rfl) (B:F.sj κ i κs mk=b:=by intros;kernel_rfl): ∀ (n:Nat),F.jn κ i κs n mk=l n:=by
 intro n
 cases n with
 |zero=>intros;rw [h0];rfl
 |succ n=>intros;rw [hs,Fx.jn_succ];exact B
theorem eK {F:Fx S} {κ:Out UU->Option S} {i:Nat} {κs:List (St UU->Option S)} {α0:Type} {mk:α0->St UU} {l:Nat->α0->Option S} (b:(α0->Option S)->α0->Option S) (h0:l 0=fun x0=> .none:=by rfl) (hs: ∀n,l (n+1)=b (l n):=by intros;rfl) (B: ∀ (r:St UU->Option S) x0,F.st κ i κs r (mk x0)=b (fun x0=>r (mk x0)) x0:=by intros;kernel_rfl): ∀ (n:Nat) x0,F.lp κ i κs n (mk x0)=l n x0:=by
 intro n
 induction n with
 |zero=>intros;rw [h0];rfl
 |succ n ih=>
  intros
  rw [hs,Fx.lp_succ,B]
  exact congrArg (fun g=>b g _) (funext fun x0=>ih x0)
theorem GG {F:Fx S} {κ:Out UU->Option S} {i:Nat} {κs:List (St UU->Option S)} {α0:Type} {mk:α0->St UU} {l:Nat->α0->Option S} (b:α0->Option S) (h0:l 0=fun x0=> .none:=by rfl) (hs: ∀n,l (n+1)=b:=by intros;rfl) (B: ∀x0,F.sj κ i κs (mk x0)=b x0:=by intros;kernel_rfl): ∀ (n:Nat) x0,F.jn κ i κs n (mk x0)=l n x0:=by
 intro n
 cases n with
 |zero=>intros;rw [h0];rfl
 |succ n=>intros;rw [hs,Fx.jn_succ];exact B _
theorem bw {F:Fx S} {κ:Out UU->Option S} {i:Nat} {κs:List (St UU->Option S)} {α0 α1:Type} {mk:α0->α1->St UU} {l:Nat->α0->α1->Option S} (b:(α0->α1->Option S)->α0->α1->Option S) (h0:l 0=fun x0 x1=> .none:=by rfl) (hs: ∀n,l (n+1)=b (l n):=by intros;rfl) (B: ∀ (r:St UU->Option S) x0 x1,F.st κ i κs r (mk x0 x1)=b (fun x0 x1=>r (mk x0 x1)) x0 x1:=by intros;kernel_rfl): ∀ (n:Nat) x0 x1,F.lp κ i κs n (mk x0 x1)=l n x0 x1:=by
 intro n
 induction n with
 |zero=>intros;rw [h0];rfl
 |succ n ih=>
  intros
  rw [hs,Fx.lp_succ,B]
  exact congrArg (fun g=>b g _ _) (funext fun x0=>funext fun x1=>ih x0 x1)
theorem M2 {F:Fx S} {κ:Out UU->Option S} {i:Nat} {κs:List (St UU->Option S)} {α0 α1:Type} {mk:α0->α1->St UU} {l:Nat->α0->α1->Option S} (b:α0->α1->Option S) (h0:l 0=fun x0 x1=> .none:=by rfl) (hs: ∀n,l (n+1)=b:=by intros;rfl) (B: ∀x0 x1,F.sj κ i κs (mk x0 x1)=b x0 x1:=by intros;kernel_rfl): ∀ (n:Nat) x0 x1,F.jn κ i κs n (mk x0 x1)=l n x0 x1:=by
 intro n
 cases n with
 |zero=>intros;rw [h0];rfl
 |succ n=>intros;rw [hs,Fx.jn_succ];exact B _ _
theorem iG {F:Fx S} {κ:Out UU->Option S} {i:Nat} {κs:List (St UU->Option S)} {α0 α1 α2:Type} {mk:α0->α1->α2->St UU} {l:Nat->α0->α1->α2->Option S} (b:(α0->α1->α2->Option S)->α0->α1->α2->Option S) (h0:l 0=fun x0 x1 x2=> .none:=by rfl) (hs: ∀n,l (n+1)=b (l n):=by intros;rfl) (B: ∀ (r:St UU->Option S) x0 x1 x2,F.st κ i κs r (mk x0 x1 x2)=b (fun x0 x1 x2=>r (mk x0 x1 x2)) x0 x1 x2:=by intros;kernel_rfl): ∀ (n:Nat) x0 x1 x2,F.lp κ i κs n (mk x0 x1 x2)=l n x0 x1 x2:=by
 intro n
 induction n with
 |zero=>intros;rw [h0];rfl
 |succ n ih=>
  intros
  rw [hs,Fx.lp_succ,B]
  exact congrArg (fun g=>b g _ _ _) (funext fun x0=>funext fun x1=>funext fun x2=>ih x0 x1 x2)
theorem ahz {F:Fx S} {κ:Out UU->Option S} {i:Nat} {κs:List (St UU->Option S)} {α0 α1 α2 α3 α4 α5 α6 α7 α8 α9 α10:Type} {mk:α0->α1->α2->α3->α4->α5->α6->α7->α8->α9->α10->St UU} {l:Nat->α0->α1->α2->α3->α4->α5->α6->α7->α8->α9->α10->Option S} (b:(α0->α1->α2->α3->α4->α5->α6->α7->α8->α9->α10->Option S)->α0->α1->α2->α3->α4->α5->α6->α7->α8->α9->α10->Option S) (h0:l 0=fun x0 x1 x2 x3 x4 x5 x6 x7 x8 x9 x10=> .none:=by rfl) (hs: ∀n,l (n+1)=b (l n):=by intros;rfl) (B: ∀ (r:St UU->Option S) x0 x1 x2 x3 x4 x5 x6 x7 x8 x9 x10,F.st κ i κs r (mk x0 x1 x2 x3 x4 x5 x6 x7 x8 x9 x10)=b (fun x0 x1 x2 x3 x4 x5 x6 x7 x8 x9 x10=>r (mk x0 x1 x2 x3 x4 x5 x6 x7 x8 x9 x10)) x0 x1 x2 x3 x4 x5 x6 x7 x8 x9 x10:=by intros;kernel_rfl): ∀ (n:Nat) x0 x1 x2 x3 x4 x5 x6 x7 x8 x9 x10,F.lp κ i κs n (mk x0 x1 x2 x3 x4 x5 x6 x7 x8 x9 x10)=l n x0 x1 x2 x3 x4 x5 x6 x7 x8 x9 x10:=by
 intro n
 induction n with
 |zero=>intros;rw [h0];rfl
 |succ n ih=>
  intros
  rw [hs,Fx.lp_succ,B]
  exact congrArg (fun g=>b g _ _ _ _ _ _ _ _ _ _ _) (funext fun x0=>funext fun x1=>funext fun x2=>funext fun x3=>funext fun x4=>funext fun x5=>funext fun x6=>funext fun x7=>funext fun x8=>funext fun x9=>funext fun x10=>ih x0 x1 x2 x3 x4 x5 x6 x7 x8 x9 x10)
end
end Go.Proofs.YtgajalidbabccaaGreatDoor
namespace Go.Proofs.YtgajalidbabccaaGreatDoor
open Go PI
set_option maxRecDepth 100000
noncomputable def yK:Side UU:=⟨8,fun _=>[],fun _=>false,.none,fun _=>false⟩
noncomputable def Ci {S:Type}:Oracle UU S:=fun _ _ _ _=> .none
theorem c1 {S:Type} (κ:Out UU->Option S):uh VV yK Ci (fun _=> .none) 5 false [] Tryz.f91 [.sl (U:=UU) ET.C [] .void] [] κ=κ (.ret (dP [] .none) []):=by kernel_rfl
theorem c2 {S:Type} (l:List Cl) (κ:Out UU->Option S):uh VV yK Ci (fun _=> .none) 5 false [] Tryz.f91 [.sl (U:=UU) ET.C l .sure] [] κ=af (aE 1099511627776 0 l.length) fun _=>κ (.ret (dP l .none) []):=by kernel_rfl
theorem aiA {S:Type} (o:Obj):(Ci (S:=S)).Tells (d5 (LL o)):=fun _ _ _ _ _ h=>by cases h
theorem K8 (o:Obj) {args:List PU} (hl:args.length=1) {out:Out UU} (h:uh VV yK Ci (fun _=> .none) 5 false [] Tryz.f91 args [] some=some out):d5 (LL o) 91 args [] out:=by
 obtain ⟨out',h1,h2⟩:=SX Ce (BV o) (S:=yK) rfl rfl (aiA o) (f:=91) Tryz.func91 (by kernel_rfl) rfl rfl (by decide) (by rw [hl];decide) h
 injection h1 with h1
 exact h1▸h2
theorem ML {X:Link VV Tryz.prog} {w:World} {vs:Array Value} {N0:aR} {ν:Nat->Nat} {δ:Nat->Option Nat} {ο:Nat->Array Value} {p q:PU} (h:Given X w vs N0 ν δ ο [p] [])
  (hr:RepG X w (NB N0 0 ν δ) (gB UU 0 ν) (vs.getD 0 undef) (δ 0) p->RepG X w (NB N0 0 ν δ) (gB UU 0 ν) (vs.getD 0 undef) (δ 0) q):Given X w vs N0 ν δ ο [q] []:=
 {h with
  args:=fun j r hj=>by
   cases j with
   |zero=>
    injection hj with hj
    subst hj
    exact hr (h.args 0 p rfl)
   |succ j=>simp at hj}
theorem aaM (o:Obj) (l:List Cl) {u:Unit} (hroom:aE 1099511627776 0 l.length=some u):d5 (LL o) 91 [dP l .none] [] (.ret (dP l .none) []):=by
 refine ⟨⟨Tryz.f91,Tryz.func91,by kernel_rfl,rfl⟩,fun w vs N0 ν δ ο hg=> ?_⟩
 have h0:Rep (LL o) w (NB N0 0 ν δ) (gB UU 0 ν) (vs.getD 0 undef) (dP l .none):=hg.args 0 _ rfl
 generalize hv:vs.getD 0 undef=v at h0
 cases h0 with
 |sl A n c _ _ _ val hl hc _ h1 h2=>
 cases A with
 |none=>
  have hl0:l=[]:=by
   cases l with
   |nil=>rfl
   |cons x r=>
    obtain ⟨a,ha,_⟩:=h1 0 x rfl 0 _ rfl
    cases ha
  subst hl0
  exact (K8 o (args:=[dP [] .void]) rfl (c1 some)).2 w vs N0 ν δ ο (ML hg fun _=>by
   rw [hv];exact Rep.sl (X:=LL o) none n c ET.C (show List Cl from []) .void val hl hc rfl h1 h2)
 |some a=>
  refine (K8 o (args:=[dP l .sure]) rfl (out:= .ret (dP l .none) []) ((c2 l some).trans (by rw [hroom];rfl))).2 w vs N0 ν δ ο (ML hg fun _=> ?_)
  rw [hv]
  exact Rep.sl (X:=LL o) (some a) n c ET.C l .sure val hl hc (fun h=>by cases h) h1 h2
theorem amc {S:Type} (o:Obj) (ho:ai o) (vs:List PU) (bs:List (Box UU)) (κ:Out UU->Option S) (x:S) (h:IC vs bs κ=some x): ∃out,d5 (LL o) adK vs bs out/\κ out=some x:=by
 unfold IC at h
 split at h
 case h_2=>cases h
 rename_i κ y
 unfold tU at h
 obtain ⟨u,hr,h⟩:=Option.bind_eq_some_iff.1 h
 exact ⟨_,aaM o y hr,h⟩
end Go.Proofs.YtgajalidbabccaaGreatDoor
namespace Go.Proofs.YtgajalidbabccaaGreatDoor
open Go PI
set_option maxRecDepth 100000
noncomputable section
variable {S:Type}
noncomputable abbrev dU:Ob UU:=⟨0,ET.B,([]:List (Br Tm))⟩
noncomputable abbrev eh:Ob UU:=⟨0,ET.T,([]:List Tm)⟩
noncomputable abbrev dY:Ob UU:=⟨0,ET.C,([]:List Cl)⟩
noncomputable abbrev eC:PV UU:= .str av
abbrev ar (n:Nat):Option (Nat×Bool):=some (n,true)
abbrev aa {α:Type}:Option α:= .none
theorem au {R S:Type} {k:Nat} {f:(R->Option S)->Option S} {g:R->Option S} {a:Option S} {x:S} (h:ab k f g=some x) (e:a=f g:=by kernel_rfl):a=some x:=e.trans (bv h)
def GK:Cs:=cc cT (cc cI cn)
def BY:Cs:=cc cI (cc lT cn)
def Nb:Cs:=cc cI (cc cI cn)
def Nf:Cs:=cc cT (cc cI (cc cI (cc (cp 0) cn)))
def eF:Bs:=xI xn
def kX5:Cs:=cc cT (cc (cf 198 cn (cc (cp 0) cn)) cn)
def kX6:Cs:=cc cT (cc (cf 200 cn (cc (cp 0) cn)) cn)
def UW:Bs:=xc (cc (cf 199 cn (cc (cp 1) (cc (cp 0) cn))) cn) (xI xn)
def Nt:Cs:=cc cT (cc (cp 0) (cc (cp 1) cn))
def xX9:Bs:=xI (xc (cc (cf 199 cn (cc (cp 0) (cc (cp 1) cn))) cn) xn)
def gG:Cs:=cc cT cn
def jx:Cs:=cc cI cn
def M7:Cs:=cc cs cn
def wZ:Cs:=cc cU cn
def p_:Cs:=cc cC cn
def w5:Cs:=cc cC (cc cC cn)
def B0:Cs:=cc cC (cc (cp 0) cn)
def yH:Bs:=xC xn
def Na:Cs:=cc lC (cc (cf 228 cn (cc (cp 0) cn)) cn)
def amV:Bs:=xc (cc lC cn) xn
def ig:Cs:=cc lC cn
def lm:Cs:=cc lC (cc lC cn)
def oI:Cs:=cc cU (cc cI cn)
def B1:Cs:=cc lC (cc cI cn)
def Nc:Cs:=cc lC (cc (cf 269 cn cn) cn)
def sH:Cs:=cc cT (cc cI (cc cI cn))
def Nd:Cs:=cc cT (cc cI (cc cI (cc cb cn)))
def aeT:Cs:=cc cT (cc cI (cc cI (cc (cp 0) (cc (cp 1) (cc (cp 2) cn)))))
def UR:Bs:=xI (xI (xc (cc cb cn) xn))
def aeU:Cs:=cc cT (cc (cf 117 cn (cc (cp 0) (cc (cp 1) (cc (cp 2) cn)))) cn)
def GM:Cs:=cc lT cn
def aeV:Cs:=cc (cp 0) (cc cT (cc cI cn))
def w6:Cs:=cc (cp 0) cn
def w7:Cs:=cc (cp 0) (cc cT cn)
def Ng:Cs:=cc lF cn
def Nh:Cs:=cc cU (cc cI (cc cI cn))
def Ni:Cs:=cc cC (cc cI (cc cI cn))
def aeW:Cs:=cc hC (cc cC (cc (cp 0) (cc (cp 1) cn)))
def DM:Bs:=xI (xI xn)
def aeX:Cs:=cc lC (cc hC (cc (cf 144 cn (cc (cp 0) (cc (cp 1) cn))) cn))
def GN:Cs:=cc lC (cc cI (cc cI cn))
def aeY:Cs:=cc (cg (cc cI (cc cI cn))) (cc lC (cc cI cn))
def aeZ:Cs:=cc (cg (cc cI (cc cI cn))) (cc cT (cc cI (cc cI cn)))
def Nj:Cs:=cc (cp 0) (cc (cp 1) (cc (cp 2) cn))
def US:Bs:=xI (xI (xT xn))
def ae0:Cs:=cc cT (cc lI (cc (cf 206 cn (cc (cp 0) (cc (cp 1) (cc (cp 2) cn)))) cn))
def Nk:Cs:=cc (cp 0) (cc cT (cc cI (cc cI cn)))
def ae1:Cs:=cc (cp 0) (cc cI cn)
def Nl:Cs:=cc (cp 0) (cc lC cn)
def ae2:Cs:=cc (cp 0) (cc lC (cc lC cn))
def UT:Bs:=xI (xT (xI xn))
def ae4:Cs:=cc cT (cc lI (cc (cf 84 cn (cc (cp 0) (cc (cp 1) (cc (cp 2) cn)))) cn))
def GO:Cs:=cc cT (cc cI (cc lC cn))
def Nm:Cs:=cc (cf 152 cn cn) (cc (cp 0) (cc (cp 1) cn))
def yI:Bs:=xI (xc (cc lC cn) xn)
def ae5:Cs:=cc (cf 153 cn cn) (cc (cp 0) (cc (cp 1) cn))
def ae6:Cs:=cc cI (cc lC cn)
def ae7:Cs:=cc lC (cc (cf 284 cn cn) cn)
def ae8:Cs:=cc lC (cc (cf 285 cn (cc (cp 0) cn)) cn)
def Nn:Cs:=cc lC (cc cC cn)
def ae_:Cs:=cc lC (cc lC (cc (cf 282 cn cn) cn))
def B2:Cs:=cc lC (cc cI (cc lC cn))
def GP:Cs:=cc lC (cc cI (cc (cp 0) (cc (cp 1) (cc (cp 2) cn))))
def amW:Bs:=xI (xc (cc lC cn) (xc (cc (cf 153 cn cn) cn) xn))
def afa:Cs:=cc lC (cc cC (cc (cp 0) (cc (cp 1) cn)))
def afb:Cs:=cc lC (cc lC (cc (cf 235 cn (cc (cp 0) (cc (cp 1) cn))) cn))
def UV:Bs:=xI (xc (cc lC cn) (xc (cc (cf 152 cn cn) cn) xn))
def GQ:Cs:=cc (cg (cc (cf 148 cn (cc (cp 0) (cc (cp 1) (cc (cp 2) cn)))) (cc (cf 148 cn (cc (cp 0) (cc (cp 1) (cc (cp 3) cn)))) cn))) (cc cT (cc cI cn))
def KA:Bs:=xI (xc (cc lC cn) (xc (cc (cf 152 cn cn) cn) (xc (cc (cf 153 cn cn) cn) xn)))
def Np:Cs:=cc cI (cc (cp 0) cn)
def amX:Bs:=xT xn
def Nq:Cs:=cc (cg (cc (cf 148 cn (cc (cp 0) (cc (cp 1) (cc (cp 2) cn)))) (cc (cf 148 cn (cc (cp 0) (cc (cp 1) (cc (cp 3) cn)))) cn))) (cc lT (cc cI (cc (cf 157 cn (cc (cp 4) cn)) cn)))
def UX:Bs:=xI (xc (cc lC cn) (xc (cc (cf 152 cn cn) cn) (xc (cc (cf 153 cn cn) cn) (xI xn))))
def afc:Cs:=cc (cg (cc (cf 148 cn (cc (cp 0) (cc (cp 1) (cc (cp 2) cn)))) (cc (cf 148 cn (cc (cp 0) (cc (cp 1) (cc (cp 3) cn)))) cn))) (cc lT (cc cI (cc (cf 156 cn (cc (cp 4) cn)) cn)))
def amY:Bs:=xI (xc (cc lC cn) (xc (cc (cf 152 cn cn) cn) (xc (cc (cf 153 cn cn) cn) (xT xn))))
def afd:Cs:=cc lC (cc cI (cc (cp 0) cn))
def Nr:Cs:=cc (cg (cc (cf 158 cn (cc (cp 0) cn)) (cc (cf 158 cn (cc (cp 0) cn)) cn))) (cc cT (cc cI cn))
def Ns:Cs:=cc (cg (cc (cf 158 cn (cc (cp 0) cn)) (cc (cf 158 cn (cc (cp 0) cn)) cn))) (cc lT (cc cI (cc (cf 157 cn (cc (cp 1) cn)) cn)))
def afe:Cs:=cc (cg (cc (cf 158 cn (cc (cp 0) cn)) (cc (cf 158 cn (cc (cp 0) cn)) cn))) (cc lT (cc cI (cc (cf 156 cn (cc (cp 1) cn)) cn)))
def amZ:Bs:=xI (xT xn)
def Nu:Cs:=cc (cp 0) (cc cT (cc lC cn))
def aff:Cs:=cc cT (cc lC (cc cT (cc cC (cc lC cn))))
def Nv:Cs:=cc cT (cc lC (cc cT cn))
def afg:Cs:=cc (cp 0) (cc cT (cc lC (cc cT cn)))
def afh:Cs:=cc (cp 0) (cc cT (cc cT cn))
def afi:Cs:=cc cI (cc lC (cc lT cn))
def afj:Cs:=cc lC (cc lT cn)
def afk:Cs:=cc lB cn
def w8:Cs:=cc cT (cc cT (cc lB cn))
def Nw:Cs:=cc (cp 0) (cc cT (cc cT (cc lB cn)))
def afl:Cs:=cc cI (cc lB (cc lT cn))
def aex:Cs:=cc cB cn
def aey:Cs:=cc lB (cc (cf 118 cn cn) cn)
def M4:Cs:=cc cT (cc lB cn)
def aez:Cs:=cc lC (cc (cf 273 cn (cc (cp 0) cn)) cn)
def BZ:Cs:=cc (cp 0) (cc (cp 1) cn)
def Kx:Bs:=xc (cc (cp 2) cn) (xT (xc (cc cI (cc lC (cc cI (cc cI (cc cs (cc lC (cc lT (cc lB (cc lB (cc cI (cc cI (cc cs (cc lC (cc lT (cc lB (cc cI (cc cI (cc cs (cc lC (cc lT (cc lB cn))))))))))))))))))))) xn))
def aeA:Cs:=cc (cp 0) (cc (cf 132 cn (cc (cp 1) (cc (cp 2) cn))) cn)
def amQ:Bs:=xc (cc cI (cc lC (cc cI (cc cI (cc cs (cc lC (cc lT (cc lB (cc lB (cc cI (cc cI (cc cs (cc lC (cc lT (cc lB (cc cI (cc cI (cc cs (cc lC (cc lT (cc lB cn))))))))))))))))))))) (xc (cc (cp 0) cn) (xT xn))
def M5:Cs:=cc cB (cc (cp 0) cn)
def uB:Bs:=xc (cc (cp 1) cn) (xc (cc cI (cc lC (cc cI (cc cI (cc cs (cc lC (cc lT (cc lB (cc lB (cc cI (cc cI (cc cs (cc lC (cc lT (cc lB (cc cI (cc cI (cc cs (cc lC (cc lT (cc lB cn))))))))))))))))))))) xn)
def aeB:Cs:=cc lB (cc (cf 133 cn (cc (cp 0) cn)) cn)
def amR:Bs:=xc (cc cI (cc lC (cc cI (cc cI (cc cs (cc lC (cc lT (cc lB (cc nB (cc cI (cc cI (cc cs (cc lC (cc lT (cc lB (cc cI (cc cI (cc cs (cc lC (cc lT (cc lB cn))))))))))))))))))))) xn
def M6:Cs:=cc (cp 0) (cc cT (cc cT (cc cT (cc cT cn))))
def aeC:Cs:=cc cT (cc cT (cc cT (cc cT cn)))
def DL:Bs:=xc (cc (cf 135 cn (cc (cp 1) (cc (cp 2) cn))) cn) (xc (cc (cp 3) cn) (xT (xc (cc cI (cc lC (cc cI (cc cI (cc cs (cc lC (cc lT (cc lB (cc lB (cc cI (cc cI (cc cs (cc lC (cc lT (cc lB (cc cI (cc cI (cc cs (cc lC (cc lT (cc lB cn))))))))))))))))))))) xn)))
def aeD:Cs:=cc (cp 0) (cc (cf 137 cn (cc (cp 1) (cc (cp 2) cn))) cn)
def amS:Bs:=xc (cc cI (cc lC (cc cI (cc cI (cc cs (cc lC (cc lT (cc lB (cc lB (cc cI (cc cI (cc cs (cc lC (cc lT (cc lB (cc cI (cc cI (cc cs (cc lC (cc lT (cc lB cn))))))))))))))))))))) (xc (cc (cf 135 cn (cc (cp 2) (cc (cp 3) cn))) cn) (xc (cc (cp 0) cn) (xT xn)))
def GL:Cs:=cc cB (cc (cp 0) (cc (cp 1) cn))
def aeE:Cs:=cc lB (cc (cf 138 cn (cc (cp 0) (cc (cp 1) cn))) cn)
def amT:Bs:=xc (cc cI (cc lC (cc cI (cc cI (cc cs (cc lC (cc lT (cc lB (cc lB (cc cI (cc cI (cc cs (cc lC (cc lT (cc lB (cc cI (cc cI (cc cs (cc lC (cc lT (cc lB cn))))))))))))))))))))) xn
def aeF:Cs:=cc lB (cc (cf 69 cn (cc (cp 0) cn)) cn)
def aeG:Cs:=cc (cp 0) (cc (cf 72 cn (cc (cp 1) cn)) cn)
def amU:Bs:=xc (cc cI (cc lC (cc cI (cc cI (cc cs (cc lC (cc lT (cc lB (cc lB (cc cI (cc cI (cc cs (cc lC (cc lT (cc lB (cc cI (cc cI (cc cs (cc lC (cc lT (cc lB cn))))))))))))))))))))) (xc (cc (cp 0) cn) xn)
def M8:Cs:=cc cT (cc cT cn)
def aeH:Cs:=cc lT (cc lT cn)
def aeI:Cs:=cc lI cn
def aeJ:Cs:=cc cT (cc cI (cc cI (cc cI (cc cI cn))))
def aeK:Cs:=cc cU (cc cU cn)
def aeL:Cs:=cc lC (cc cb (cc cI (cc lC (cc cI cn))))
def aeM:Cs:=cc cT (cc cI (cc lC (cc cI (cc cb cn))))
def UQ:Bs:=xc (cc (cp 2) cn) (xc (cc lB cn) (xI xn))
def aeN:Cs:=cc lB (cc (cf 55 cn (cc (cp 0) (cc (cp 1) cn))) cn)
def aeO:Cs:=cc cB (cc (cp 0) (cc (cp 1) (cc (cp 2) cn)))
def Ky:Bs:=xc (cc (cp 3) cn) (xT (xT (xI xn)))
def M9:Cs:=cc lB (cc (cf 60 cn (cc (cp 0) (cc (cp 1) (cc (cp 2) cn)))) cn)
def Kz:Bs:=xT (xT xn)
def M_:Cs:=cc lB (cc (cf 64 cn (cc (cp 0) (cc (cp 1) cn))) cn)
def aeP:Cs:=cc cI (cc cT (cc cT cn))
def aeQ:Cs:=cc cI (cc cT cn)
def aeR:Cs:=cc cI (cc lB cn)
def aeS:Cs:=cc cT (cc lC cn)
def bD (κ:Out UU->Option S):Int->Option S:=fun r=>κ (.ret (iI r) [])
def Cp (κ:Out UU->Option S):Int×Int×ByteArray×List Tm->Option S:=fun r=>κ (.ret (.agg [(iI r.1),(iI r.2.1),(.str r.2.2.1),(dP [] .nil),(sT r.2.2.2),(eS [] .nil)]) [])
def nC (κ:Out UU->Option S):Int×Int->Option S:=fun r=>κ (.ret (.tuple [(iI r.1),(iI r.2)]) [])
def aH (κ:Out UU->Option S):Bool->Option S:=fun r=>κ (.ret (.bool r) [])
def iM (c0:Int) (κ:Out UU->Option S):Bool->Option S:=fun r=>κ (.ret (.bool r) [bI c0])
def kj (κ:Out UU->Option S):Bool×Int->Option S:=fun r=>κ (.ret (.bool r.1) [.cells [(.func 199 [] [(pt 1),(pt 0)])],bI r.2])
def qX6 (κ:Out UU->Option S):Bool×Int->Option S:=fun r=>κ (.ret (.bool r.1) [bI r.2,.cells [(.func 199 [] [(pt 0),(pt 1)])]])
def P5 (κ:Out UU->Option S):Cl->Option S:=fun r=>κ (.ret (aC r) [])
def P8 (c0:Cl) (κ:Out UU->Option S):Bool->Option S:=fun r=>κ (.ret (.bool r) [bC c0])
def CN (c0:Cl) (κ:Out UU->Option S):Int->Option S:=fun r=>κ (.ret (iI r) [bC c0])
def aiY (c0:List Cl) (κ:Out UU->Option S):Bool->Option S:=fun r=>κ (.ret (.bool r) [.cells [(sC c0)]])
def aG (κ:Out UU->Option S):List Cl×Int->Option S:=fun r=>κ (.ret (.tuple [(sC r.1),(iI r.2)]) [])
def d3 (κ:Out UU->Option S):Int->Option S:=fun r=>κ (.ret (iU r) [])
def kh (c0 c1:Int) (c2:Bool) (κ:Out UU->Option S):Bool->Option S:=fun r=>κ (.ret (.bool r) [bI c0,bI c1,.cells [(.bool c2)]])
def bt (κ:Out UU->Option S):Tm->Option S:=fun r=>κ (.ret (aT r) [])
def Cu (κ:Out UU->Option S):List Tm->Option S:=fun r=>κ (.ret (sT r) [])
def lJ (κ:Out UU->Option S):Tm×Int->Option S:=fun r=>κ (.ret (aT r.1) [bI r.2])
def ai1 (κ:Out UU->Option S):Tm×Bool×Int×Int->Option S:=fun r=>κ (.ret (.tuple [(aT r.1),(.bool r.2.1),(iI r.2.2.1)]) [bI r.2.2.2])
def ai2 (κ:Out UU->Option S):List Cl->Option S:=fun r=>κ (.ret (Gs r) [])
def xV (κ:Out UU->Option S):Int×Int->Option S:=fun r=>κ (.ret (.tuple [(iU r.1),(iI r.2)]) [])
def P1 (κ:Out UU->Option S):Cl×Int->Option S:=fun r=>κ (.ret (.tuple [(aC r.1),(iI r.2)]) [])
def ai3 (c0 c1:Int) (κ:Out UU->Option S):List Cl×Int->Option S:=fun r=>κ (.ret (.tuple [(Gs r.1),(iI r.2)]) [bI c0,bI c1])
def Cv (c0 c1:Int) (κ:Out UU->Option S):List Cl×Int->Option S:=fun r=>κ (.ret (.tuple [(sC r.1),(iI r.2)]) [bI c0,bI c1])
def ai4 (κ:Out UU->Option S):Pan Int (List Cl)->Option S:=fun r=>Pan.elim r (fun r=>κ (.ret (sC r) [])) (fun e=>κ (.panic (.iface 30 (iI e)) []))
def iL (κ:Out UU->Option S):Pan Int Tm->Option S:=fun r=>Pan.elim r (fun r=>κ (.ret (aT r) [])) (fun e=>κ (.panic (.iface 30 (iI e)) []))
def ai5 (c0 c1:Int) (c2:Tm) (κ:Out UU->Option S):Pan Int Tm->Option S:=fun r=>Pan.elim r (fun r=>κ (.ret (aT r) [bI c0,bI c1,bT c2])) (fun e=>κ (.panic (.iface 30 (iI e)) [bI c0,bI c1,bT c2]))
def Cw (c0 c1:Int) (c2:Tm) (κ:Out UU->Option S):Tm×Int->Option S:=fun r=>κ (.ret (.tuple [(aT r.1),(iI r.2)]) [bI c0,bI c1,bT c2])
def hJ (κ:Out UU->Option S):Tm×Int->Option S:=fun r=>κ (.ret (.tuple [(aT r.1),(iI r.2)]) [])
def P2 (κ:Out UU->Option S):Int×Int×ByteArray->Option S:=fun r=>κ (.ret (.agg [(iI r.1),(iI r.2.1),(.str r.2.2),(dP [] .nil),(hU [] .nil),(eS [] .nil)]) [])
def ai6 (κ:Out UU->Option S):Int->Option S:=fun r=>κ (.ret (.tuple []) [bI r])
def Cx (κ:Out UU->Option S):Int->Option S:=fun r=>κ (.ret (pt 0) [bI r])
def HP (κ:Out UU->Option S):List Cl×Int->Option S:=fun r=>κ (.ret (sC r.1) [bI r.2])
def ai7 (c0:Int) (c1:Tm) (c2:Int) (κ:Out UU->Option S):Pan Int Tm->Option S:=fun r=>Pan.elim r (fun r=>κ (.ret (aT r) [bI c0,bT c1,bI c2])) (fun e=>κ (.panic (.iface 30 (iI e)) [bI c0,bT c1,bI c2]))
def Cy (c0:Int) (c1:Tm) (c2:Int) (κ:Out UU->Option S):Tm×Int->Option S:=fun r=>κ (.ret (.tuple [(aT r.1),(iI r.2)]) [bI c0,bT c1,bI c2])
def ai8 (c0:Int) (c1:List Cl) (κ:Out UU->Option S):Unit->Option S:=fun r=>κ (.ret (.func 148 [] [(pt 0),(pt 1),(pt 2)]) [bI c0,.cells [(sC c1)],.cells [(.func 152 [] [])]])
def ai9 (c0:Int) (c1:List Cl) (κ:Out UU->Option S):Unit->Option S:=fun r=>κ (.ret (.func 148 [] [(pt 0),(pt 1),(pt 2)]) [bI c0,.cells [(sC c1)],.cells [(.func 153 [] [])]])
def ai_ (κ:Out UU->Option S):Int×List Cl->Option S:=fun r=>κ (.ret (.agg [(.func 148 [] [(pt 0),(pt 1),(pt 2)]),(.func 148 [] [(pt 0),(pt 1),(pt 3)])]) [bI r.1,.cells [(sC r.2)],.cells [(.func 152 [] [])],.cells [(.func 153 [] [])]])
def jA (κ:Out UU->Option S):List Cl->Option S:=fun r=>κ (.ret (sC r) [])
def aja (κ:Out UU->Option S):Cl×Bool->Option S:=fun r=>κ (.ret (.tuple [(aC r.1),(.bool r.2)]) [])
def ajb (c0:Cl) (κ:Out UU->Option S):Cl×Bool->Option S:=fun r=>κ (.ret (.tuple [(aC r.1),(.bool r.2)]) [bC c0])
def Cz (c0:Cl) (κ:Out UU->Option S):List Cl->Option S:=fun r=>κ (.ret (sC r) [bC c0])
def ajc (c0:Int) (c1:List Cl) (κ:Out UU->Option S):List Cl×Int->Option S:=fun r=>κ (.ret (.tuple [(sC r.1),(iI r.2)]) [bI c0,.cells [(sC c1)],.cells [(.func 153 [] [])]])
def xW (c0:Int) (c1:List Cl) (κ:Out UU->Option S):List Cl×Int->Option S:=fun r=>κ (.ret (.tuple [(sC r.1),(iI r.2)]) [bI c0,.cells [(sC c1)]])
def ajd (c0:Int) (c1:List Cl) (κ:Out UU->Option S):List Cl×Int->Option S:=fun r=>κ (.ret (.tuple [(sC r.1),(iI r.2)]) [bI c0,.cells [(sC c1)],.cells [(.func 152 [] [])]])
def aje (c0:Int) (c1:List Cl) (κ:Out UU->Option S):List Cl×Int->Option S:=fun r=>κ (.ret (.tuple [(sC r.1),(iI r.2)]) [bI c0,.cells [(sC c1)],.cells [(.func 152 [] [])],.cells [(.func 153 [] [])]])
def ajf (c0:Tm) (κ:Out UU->Option S):Int->Option S:=fun r=>κ (.ret (iI r) [bT c0])
def ajg (c0:Int) (κ:Out UU->Option S):Int->Option S:=fun r=>κ (.ret (iI r) [bI c0])
def CA (c0:Int) (c1:List Cl) (κ:Out UU->Option S):Tm×Int->Option S:=fun r=>κ (.ret (.tuple [(aT r.1),(iI r.2)]) [bI c0,.cells [(sC c1)],.cells [(.func 152 [] [])],.cells [(.func 153 [] [])]])
def CB (c0:Int) (c1:List Cl) (c4:Int) (κ:Out UU->Option S):List Tm×Int->Option S:=fun r=>κ (.ret (.tuple [(sT r.1),(iI r.2)]) [bI c0,.cells [(sC c1)],.cells [(.func 152 [] [])],.cells [(.func 153 [] [])],bI c4])
def CC (c0:Int) (c1:List Cl) (c4:Tm) (κ:Out UU->Option S):List Tm×Int->Option S:=fun r=>κ (.ret (.tuple [(sT r.1),(iI r.2)]) [bI c0,.cells [(sC c1)],.cells [(.func 152 [] [])],.cells [(.func 153 [] [])],bT c4])
def ajh (κ:Out UU->Option S):Int->Option S:=fun r=>κ (.ret (.agg [(.func 158 [] [(pt 0)]),(.func 158 [] [(pt 0)])]) [bI r])
def xX (c0:Int) (κ:Out UU->Option S):List Cl×Int->Option S:=fun r=>κ (.ret (.tuple [(sC r.1),(iI r.2)]) [bI c0])
def CD (c0:Int) (κ:Out UU->Option S):Tm×Int->Option S:=fun r=>κ (.ret (.tuple [(aT r.1),(iI r.2)]) [bI c0])
def CE (c0 c1:Int) (κ:Out UU->Option S):List Tm×Int->Option S:=fun r=>κ (.ret (.tuple [(sT r.1),(iI r.2)]) [bI c0,bI c1])
def CF (c0:Int) (c1:Tm) (κ:Out UU->Option S):List Tm×Int->Option S:=fun r=>κ (.ret (.tuple [(sT r.1),(iI r.2)]) [bI c0,bT c1])
def aji (κ:Out UU->Option S):Tm×Int×Int->Option S:=fun r=>κ (.ret (.tuple [(aT r.1),(iI r.2.1)]) [bI r.2.2])
def ajj (κ:Out UU->Option S):Int×Int×ByteArray×List Cl×List Tm->Option S:=fun r=>κ (.ret (.agg [(iI r.1),(iI r.2.1),(.str r.2.2.1),(sC r.2.2.2.1),(sT r.2.2.2.2),(eS [] .nil)]) [])
def P3 (κ:Out UU->Option S):(Br Tm)->Option S:=fun r=>κ (.ret (aB r) [])
def ajl (κ:Out UU->Option S):Int×Int×ByteArray×List Tm×List (Br Tm)->Option S:=fun r=>κ (.ret (.agg [(iI r.1),(iI r.2.1),(.str r.2.2.1),(dP [] .nil),(hU r.2.2.2.1 .full),(sB r.2.2.2.2)]) [])
def P4 (κ:Out UU->Option S):Int×Int×ByteArray×List Tm×List (Br Tm)->Option S:=fun r=>κ (.ret (.agg [(iI r.1),(iI r.2.1),(.str r.2.2.1),(dP [] .nil),(sT r.2.2.2.1),(sB r.2.2.2.2)]) [])
def qS (κ:Out UU->Option S):Tm×Bool×Int->Option S:=fun r=>κ (.ret (.tuple [(aT r.1),(.bool r.2.1),(iI r.2.2)]) [])
def CG (κ:Out UU->Option S):List (Br Tm)->Option S:=fun r=>κ (.ret (p7 r) [])
def xY (κ:Out UU->Option S):List (Br Tm)->Option S:=fun r=>κ (.ret (sB r) [])
def ajm (c0:Int) (κ:Out UU->Option S):Cl×Bool->Option S:=fun r=>κ (.ret (.tuple [(aC r.1),(.bool r.2)]) [bI c0])
def CH (c0:Int) (κ:Out UU->Option S):List Cl->Option S:=fun r=>κ (.ret (sC r) [bI c0])
def P6 (c1:Tm) (gi:List Cl) (gr gw:Int) (gx:ByteArray) (gy:List Cl) (gz:List Tm) (gA gC:List (Br Tm)) (fP fK:Int) (fL:ByteArray) (fM:List Cl) (fN:List Tm) (fO:List (Br Tm)) (gj gk:Int) (gm:ByteArray) (gn:List Cl) (gq:List Tm) (gu:List (Br Tm)) (κ:Out UU->Option S):Tm×Int->Option S:=fun r=>κ (.ret (aT r.1) [.cells [(pt 2)],bT c1,.cells [(iI r.2),(sC gi),(iI gr),(iI gw),(.str gx),(sC gy),(sT gz),(sB gA),(sB gC),(iI fP),(iI fK),(.str fL),(sC fM),(sT fN),(sB fO),(iI gj),(iI gk),(.str gm),(sC gn),(sT gq),(sB gu)]])
def ajn (κ:Out UU->Option S):Tm×Int->Option S:=fun r=>κ (.ret (aT r.1) [.cells [.int .i64 2,(iI r.2)]])
def ajo (c0_1:List Cl) (bK bL:Int) (bM:ByteArray) (bN:List Cl) (bO:List Tm) (bP dX:List (Br Tm)) (cx cq:Int) (cr:ByteArray) (ct:List Cl) (cu:List Tm) (cv:List (Br Tm)) (bW bX:Int) (bY:ByteArray) (bZ:List Cl) (b8:List Tm) (b9:List (Br Tm)) (c2:Tm) (κ:Out UU->Option S):List (Br Tm)×Int->Option S:=fun r=>κ (.ret (eS r.1 .full) [.cells [(iI r.2),(sC c0_1),(iI bK),(iI bL),(.str bM),(sC bN),(sT bO),(sB bP),(sB dX),(iI cx),(iI cq),(.str cr),(sC ct),(sT cu),(sB cv),(iI bW),(iI bX),(.str bY),(sC bZ),(sT b8),(sB b9)],.cells [(pt 0)],bT c2])
def ajp (aU:List Cl) (a6 a7:Int) (a8:ByteArray) (a_:List Cl) (ba:List Tm) (be bq:List (Br Tm)) (bg aV:Int) (aW:ByteArray) (aX:List Cl) (aY:List Tm) (aZ:List (Br Tm)) (bj bk:Int) (bm:ByteArray) (bn:List Cl) (bo:List Tm) (bp:List (Br Tm)) (κ:Out UU->Option S):(Br Tm)×Int->Option S:=fun r=>κ (.ret (aB r.1) [.cells [(pt 1)],.cells [(iI r.2),(sC aU),(iI a6),(iI a7),(.str a8),(sC a_),(sT ba),(sB be),(sB bq),(iI bg),(iI aV),(.str aW),(sC aX),(sT aY),(sB aZ),(iI bj),(iI bk),(.str bm),(sC bn),(sT bo),(sB bp)]])
def CI (aU:List Cl) (a6 a7:Int) (a8:ByteArray) (a_:List Cl) (ba:List Tm) (be bq:List (Br Tm)) (bg aV:Int) (aW:ByteArray) (aX:List Cl) (aY:List Tm) (aZ:List (Br Tm)) (bj bk:Int) (bm:ByteArray) (bn:List Cl) (bo:List Tm) (bp:List (Br Tm)) (κ:Out UU->Option S):List (Br Tm)×Int->Option S:=fun r=>κ (.ret (p7 r.1) [.cells [(pt 1)],.cells [(iI r.2),(sC aU),(iI a6),(iI a7),(.str a8),(sC a_),(sT ba),(sB be),(sB bq),(iI bg),(iI aV),(.str aW),(sC aX),(sT aY),(sB aZ),(iI bj),(iI bk),(.str bm),(sC bn),(sT bo),(sB bp)]])
def CJ (c0_1:List Cl) (bK bL:Int) (bM:ByteArray) (bN:List Cl) (bO:List Tm) (bP:List (Br Tm)) (bW bX:Int) (bY:ByteArray) (bZ:List Cl) (b8:List Tm) (b9:List (Br Tm)) (κ:Out UU->Option S):Int×List (Br Tm)×Int×Int×ByteArray×List Cl×List Tm×List (Br Tm)->Option S:=fun r=>κ (.ret (.tuple []) [.cells [(iI r.1),(sC c0_1),(iI bK),(iI bL),(.str bM),(sC bN),(sT bO),(sB bP),(sB r.2.1),(iI r.2.2.1),(iI r.2.2.2.1),(.str r.2.2.2.2.1),(sC r.2.2.2.2.2.1),(sT r.2.2.2.2.2.2.1),(sB r.2.2.2.2.2.2.2),(iI bW),(iI bX),(.str bY),(sC bZ),(sT b8),(sB b9)]])
def ajq (κ:Out UU->Option S):Int×Int×ByteArray×List Tm×Int->Option S:=fun r=>κ (.ret (.agg [(iI r.1),(iI r.2.1),(.str r.2.2.1),(dP [] .nil),(sT r.2.2.2.1),(eS [] .nil)]) [bI r.2.2.2.2])
def ajr (c1:Tm) (gi:List Cl) (gr gw:Int) (gx:ByteArray) (gy:List Cl) (gz:List Tm) (gA gC:List (Br Tm)) (fP fK:Int) (fL:ByteArray) (fM:List Cl) (fN:List Tm) (fO:List (Br Tm)) (gj gk:Int) (gm:ByteArray) (gn:List Cl) (gq:List Tm) (gu:List (Br Tm)) (κ:Out UU->Option S):Int×Int×ByteArray×List Cl×List Tm×Int->Option S:=fun r=>κ (.ret (.agg [(iI r.1),(iI r.2.1),(.str r.2.2.1),(sC r.2.2.2.1),(sT r.2.2.2.2.1),(eS [] .nil)]) [.cells [(pt 2)],bT c1,.cells [(iI r.2.2.2.2.2),(sC gi),(iI gr),(iI gw),(.str gx),(sC gy),(sT gz),(sB gA),(sB gC),(iI fP),(iI fK),(.str fL),(sC fM),(sT fN),(sB fO),(iI gj),(iI gk),(.str gm),(sC gn),(sT gq),(sB gu)]])
def P7 (c2:Tm) (cS:List Cl) (cJ cK:Int) (cL:ByteArray) (cM:List Cl) (cO:List Tm) (cP de:List (Br Tm)) (df cW:Int) (cX:ByteArray) (cY:List Cl) (cZ:List Tm) (c5:List (Br Tm)) (c6 c7:Int) (c8:ByteArray) (c_:List Cl) (da:List Tm) (dc:List (Br Tm)) (κ:Out UU->Option S):Int×Int×ByteArray×List Cl×List Tm×Int->Option S:=fun r=>κ (.ret (.agg [(iI r.1),(iI r.2.1),(.str r.2.2.1),(sC r.2.2.2.1),(sT r.2.2.2.2.1),(eS [] .nil)]) [.cells [(.func 135 [] [(pt 1),(pt 2)])],.cells [(pt 3)],bT c2,.cells [(iI r.2.2.2.2.2),(sC cS),(iI cJ),(iI cK),(.str cL),(sC cM),(sT cO),(sB cP),(sB de),(iI df),(iI cW),(.str cX),(sC cY),(sT cZ),(sB c5),(iI c6),(iI c7),(.str c8),(sC c_),(sT da),(sB dc)]])
def ajs (κ:Out UU->Option S):Int×Int×ByteArray×List Cl×List Tm×Int->Option S:=fun r=>κ (.ret (.agg [(iI r.1),(iI r.2.1),(.str r.2.2.1),(sC r.2.2.2.1),(sT r.2.2.2.2.1),(eS [] .nil)]) [.cells [.int .i64 3,(iI r.2.2.2.2.2)]])
def ajt (c0_1:List Cl) (bK bL:Int) (bM:ByteArray) (bN:List Cl) (bO:List Tm) (bP dX:List (Br Tm)) (cx cq:Int) (cr:ByteArray) (ct:List Cl) (cu:List Tm) (cv:List (Br Tm)) (bW bX:Int) (bY:ByteArray) (bZ:List Cl) (b8:List Tm) (b9:List (Br Tm)) (c3:Tm) (κ:Out UU->Option S):List (Br Tm)×Int->Option S:=fun r=>κ (.ret (eS r.1 .full) [.cells [(iI r.2),(sC c0_1),(iI bK),(iI bL),(.str bM),(sC bN),(sT bO),(sB bP),(sB dX),(iI cx),(iI cq),(.str cr),(sC ct),(sT cu),(sB cv),(iI bW),(iI bX),(.str bY),(sC bZ),(sT b8),(sB b9)],.cells [(.func 135 [] [(pt 2),(pt 3)])],.cells [(pt 0)],bT c3])
def aju (c2:Tm) (cS:List Cl) (cJ cK:Int) (cL:ByteArray) (cM:List Cl) (cO:List Tm) (cP de:List (Br Tm)) (df cW:Int) (cX:ByteArray) (cY:List Cl) (cZ:List Tm) (c5:List (Br Tm)) (c6 c7:Int) (c8:ByteArray) (c_:List Cl) (da:List Tm) (dc:List (Br Tm)) (κ:Out UU->Option S):(Br Tm)×Int->Option S:=fun r=>κ (.ret (aB r.1) [.cells [(.func 135 [] [(pt 1),(pt 2)])],.cells [(pt 3)],bT c2,.cells [(iI r.2),(sC cS),(iI cJ),(iI cK),(.str cL),(sC cM),(sT cO),(sB cP),(sB de),(iI df),(iI cW),(.str cX),(sC cY),(sT cZ),(sB c5),(iI c6),(iI c7),(.str c8),(sC c_),(sT da),(sB dc)]])
def CK (c2:Tm) (cS:List Cl) (cJ cK:Int) (cL:ByteArray) (cM:List Cl) (cO:List Tm) (cP de:List (Br Tm)) (df cW:Int) (cX:ByteArray) (cY:List Cl) (cZ:List Tm) (c5:List (Br Tm)) (c6 c7:Int) (c8:ByteArray) (c_:List Cl) (da:List Tm) (dc:List (Br Tm)) (κ:Out UU->Option S):List (Br Tm)×Int->Option S:=fun r=>κ (.ret (p7 r.1) [.cells [(.func 135 [] [(pt 1),(pt 2)])],.cells [(pt 3)],bT c2,.cells [(iI r.2),(sC cS),(iI cJ),(iI cK),(.str cL),(sC cM),(sT cO),(sB cP),(sB de),(iI df),(iI cW),(.str cX),(sC cY),(sT cZ),(sB c5),(iI c6),(iI c7),(.str c8),(sC c_),(sT da),(sB dc)]])
def ajv (c0_1:List Cl) (bK bL:Int) (bM:ByteArray) (bN:List Cl) (bO:List Tm) (bP dX:List (Br Tm)) (cx cq:Int) (cr:ByteArray) (ct:List Cl) (cu:List Tm) (cv:List (Br Tm)) (bW bX:Int) (bY:ByteArray) (bZ:List Cl) (b8:List Tm) (b9:List (Br Tm)) (κ:Out UU->Option S):Int×Int×ByteArray×List Tm×List (Br Tm)×Int->Option S:=fun r=>κ (.ret (.agg [(iI r.1),(iI r.2.1),(.str r.2.2.1),(dP [] .nil),(sT r.2.2.2.1),(sB r.2.2.2.2.1)]) [.cells [(iI r.2.2.2.2.2),(sC c0_1),(iI bK),(iI bL),(.str bM),(sC bN),(sT bO),(sB bP),(sB dX),(iI cx),(iI cq),(.str cr),(sC ct),(sT cu),(sB cv),(iI bW),(iI bX),(.str bY),(sC bZ),(sT b8),(sB b9)]])
def ajw (aU:List Cl) (a6 a7:Int) (a8:ByteArray) (a_:List Cl) (ba:List Tm) (be bq:List (Br Tm)) (bg aV:Int) (aW:ByteArray) (aX:List Cl) (aY:List Tm) (aZ:List (Br Tm)) (bj bk:Int) (bm:ByteArray) (bn:List Cl) (bo:List Tm) (bp:List (Br Tm)) (κ:Out UU->Option S):Int×Int×ByteArray×List Tm×List (Br Tm)×Int->Option S:=fun r=>κ (.ret (.agg [(iI r.1),(iI r.2.1),(.str r.2.2.1),(dP [] .nil),(sT r.2.2.2.1),(sB r.2.2.2.2.1)]) [.cells [(pt 1)],.cells [(iI r.2.2.2.2.2),(sC aU),(iI a6),(iI a7),(.str a8),(sC a_),(sT ba),(sB be),(sB bq),(iI bg),(iI aV),(.str aW),(sC aX),(sT aY),(sB aZ),(iI bj),(iI bk),(.str bm),(sC bn),(sT bo),(sB bp)]])
def CL (aU:List Cl) (a6 a7:Int) (a8:ByteArray) (a_:List Cl) (ba:List Tm) (be bq:List (Br Tm)) (bg aV:Int) (aW:ByteArray) (aX:List Cl) (aY:List Tm) (aZ:List (Br Tm)) (bj bk:Int) (bm:ByteArray) (bn:List Cl) (bo:List Tm) (bp:List (Br Tm)) (κ:Out UU->Option S):List Tm×Int->Option S:=fun r=>κ (.ret (MD r.1) [.cells [(pt 1)],.cells [(iI r.2),(sC aU),(iI a6),(iI a7),(.str a8),(sC a_),(sT ba),(sB be),(sB bq),(iI bg),(iI aV),(.str aW),(sC aX),(sT aY),(sB aZ),(iI bj),(iI bk),(.str bm),(sC bn),(sT bo),(sB bp)]])
def P9 (aU:List Cl) (a6 a7:Int) (a8:ByteArray) (a_:List Cl) (ba:List Tm) (be bq:List (Br Tm)) (bg aV:Int) (aW:ByteArray) (aX:List Cl) (aY:List Tm) (aZ:List (Br Tm)) (bj bk:Int) (bm:ByteArray) (bn:List Cl) (bo:List Tm) (bp:List (Br Tm)) (κ:Out UU->Option S):Tm×Int->Option S:=fun r=>κ (.ret (aT r.1) [.cells [(pt 1)],.cells [(iI r.2),(sC aU),(iI a6),(iI a7),(.str a8),(sC a_),(sT ba),(sB be),(sB bq),(iI bg),(iI aV),(.str aW),(sC aX),(sT aY),(sB aZ),(iI bj),(iI bk),(.str bm),(sC bn),(sT bo),(sB bp)]])
def ajx (κ:Out UU->Option S):Tm×Int->Option S:=fun r=>κ (.ret (aT r.1) [.cells [.int .i64 1,(iI r.2)]])
def ajy (c0_1:List Cl) (bK bL:Int) (bM:ByteArray) (bN:List Cl) (bO:List Tm) (bP dX:List (Br Tm)) (cx cq:Int) (cr:ByteArray) (ct:List Cl) (cu:List Tm) (cv:List (Br Tm)) (bW bX:Int) (bY:ByteArray) (bZ:List Cl) (b8:List Tm) (b9:List (Br Tm)) (κ:Out UU->Option S):List (Br Tm)×Int->Option S:=fun r=>κ (.ret (eS r.1 .full) [.cells [(iI r.2),(sC c0_1),(iI bK),(iI bL),(.str bM),(sC bN),(sT bO),(sB bP),(sB dX),(iI cx),(iI cq),(.str cr),(sC ct),(sT cu),(sB cv),(iI bW),(iI bX),(.str bY),(sC bZ),(sT b8),(sB b9)],.cells [(pt 0)]])
def CM (κ:Out UU->Option S):List Int->Option S:=fun r=>κ (.ret (frI r) [])
def ajz (c1:List (Br Tm)) (κ:Out UU->Option S):(Br Tm)×Int->Option S:=fun r=>κ (.ret (aB r.1) [.cells [(pt 2)],.cells [(sB c1)],bI r.2])
def Cq (c1:List (Br Tm)) (κ:Out UU->Option S):List (Br Tm)×Int->Option S:=fun r=>κ (.ret (p7 r.1) [.cells [(pt 2)],.cells [(sB c1)],bI r.2])
def aiZ (c1 c2:Tm) (κ:Out UU->Option S):(Br Tm)×Int->Option S:=fun r=>κ (.ret (aB r.1) [.cells [(pt 3)],bT c1,bT c2,bI r.2])
def Cr (c1 c2:Tm) (κ:Out UU->Option S):List (Br Tm)×Int->Option S:=fun r=>κ (.ret (p7 r.1) [.cells [(pt 3)],bT c1,bT c2,bI r.2])
def ai0 (c0 c1:Tm) (κ:Out UU->Option S):(Br Tm)->Option S:=fun r=>κ (.ret (aB r) [bT c0,bT c1])
def Ct (c0 c1:Tm) (κ:Out UU->Option S):List (Br Tm)->Option S:=fun r=>κ (.ret (p7 r) [bT c0,bT c1])
end
end Go.Proofs.YtgajalidbabccaaGreatDoor
namespace Go.Proofs.YtgajalidbabccaaGreatDoor
open Go PI _root_.Go.Proofs.Tryz
set_option maxRecDepth 100000
noncomputable section
variable {S:Type} {o:Obj} (k:Nat)
def HQ (hd:kT S):Rw S:=ah GK xn fun t most Z=>hd t most (bD Z)
def px (hd:kT S) (k:Nat):Fx S:=fp 119 [(9,HQ hd)] [(5,ce [1,2,5,6] [(2,6)],aA 6 23),(9,ce [1,2,5,7] [(2,6)],aA 7 47),(15,ce [1,2,5,7,8] [(2,6)],aA 15 14639)] k f9 0
def Hi (t:Tm) (most:Int) (v5 i6:Int):St UU:=⟨[(1,(iI most)),(2,(pt 2)),(5,(iI v5)),(6,(iI i6))],[(2,bT t)],[],[]⟩
def xm (t:Tm) (most:Int) (v5' i7:Int):St UU:=⟨[(1,(iI most)),(2,(pt 2)),(5,(iI v5')),(7,(iI i7))],[(2,bT t)],[],[]⟩
def NM (t:Tm) (most i7:Int) (v5'' v8:Int):St UU:=⟨[(1,(iI most)),(2,(pt 2)),(5,(iI v5'')),(7,(iI i7)),(8,(iI v8))],[(2,bT t)],[],[]⟩
section
variable (hd:kT S) (k:Nat) (t:Tm) (most:Int) (Z:Out UU->Option S)
theorem XV (i7 Z1): ∀n v5'' v8,(px hd k).lp Z 15 [Z1] n (NM t most i7 v5'' v8)=nd hd k (bD Z) (fun v5' i7=>Z1 (xm t most v5' i7)) t most i7 n v5'' v8:=bw (zK hd k (bD Z) t most i7 (fun v5' i7=>Z1 (xm t most v5' i7)))
theorem XU: ∀n v5' i7,(px hd k).lp Z 9 [] n (xm t most v5' i7)=mm hd k (bD Z) t most n v5' i7:=bw (fun own=>ve hd k (bD Z) t most (fun i7 v5'' v8=>nd hd k (bD Z) own t most i7 k v5'' v8) own) rfl (fun _=>rfl) fun r v5' i7=>aj (b:=ve hd k (bD Z) t most (fun i7 v5'' v8=>(px hd k).lp Z 15 [r] k (NM t most i7 v5'' v8)) (fun v5' i7=>r (xm t most v5' i7)) v5' i7) (by kernel_rfl) (by simp only [XV])
theorem XT: ∀n v5 i6,(px hd k).lp Z 5 [] n (Hi t most v5 i6)=qu hd k (bD Z) t most n v5 i6:=bw (fun own=>vd hd k (bD Z) t most (fun v5' i7=>mm hd k (bD Z) t most k v5' i7) own) rfl (fun _=>rfl) fun r v5 i6=>aj (b:=vd hd k (bD Z) t most (fun v5' i7=>(px hd k).lp Z 9 [] k (xm t most v5' i7)) (fun v5 i6=>r (Hi t most v5 i6)) v5 i6) (by kernel_rfl) (by simp only [XU])
end
theorem MM (o:Obj) (ho:ai o): ∀k:Nat,Tl o 9 (HQ (kE k:kT S))
 |0=>jh fun t most Z x h=>by cases h
 |k+1=>am (px (kE k) k) ⟨MM o ho k,trivial⟩ func9 fun t most Z x h=>aj (b:=JQ (kE k) k (bD Z) (fun v5 i6=>(px (kE k) k).lp Z 5 [] k (Hi t most v5 i6)) t most) (by kernel_rfl) (aj (by simp only [XT];rfl) h)
def t7:Rw S:=ah Nb xn fun kind kid Z=>ab k (ol k kind kid) (nC Z)
def VZ:Fx S:=fp 26 [] [] k f49 0
theorem wI (ho:ai o):Tl o 49 (t7 k:Rw S):=am (VZ k) trivial func49 fun kind kid Z x h=>au h
def yj (hd:f7 S):Rw S:=ah GK xn fun t left Z=>hd t left (aH Z)
def R6 (hd:f7 S) (k:Nat):Rw S:=ah Nf eF fun a_k p p' c0 Z=>ab k (wC hd k a_k p p' c0) (iM c0 Z)
def WV (hd:f7 S) (k:Nat):Fx S:=fp 12 [(113,yj hd)] [] k f198 1
theorem eX4 (o:Obj) (ho:ai o) (hd:f7 S) (Hd:Tl o 113 (yj hd)) (k:Nat):Tl o 198 (R6 hd k:Rw S):=am (WV hd k) ⟨Hd,trivial⟩ func198 fun a_k p p' c0 Z x h=>au h
def Sa (hd:f7 S) (k:Nat):Rw S:=ah kX5 eF fun t c0 Z=>ab k (FU hd k t c0) (iM c0 Z)
def pG (hd:f7 S) (k:Nat):Fx S:=fp 60 [(49,t7 k),(198,R6 hd k)] [(2,ce [1,2,15,16,17] [(2,6),(1000000,1)],aA 4 5),(12,ce [1,9,40,41,42] [(1000000,1)],aA 7 47),(15,ce [1,9,40,41,42,47,48,49] [(1000000,1)],aA 15 13103)] k f116 1
def Hv (c0:Int) (t:Tm) (v17:Int):St UU:=⟨[(1,(.func 198 [] [(pt 1000000)])),(2,(pt 2)),(15,(sT t.kids)),(16,(iI t.kids.length)),(17,(iI v17))],[(2,bT t),(1000000,bI c0)],[],[]⟩
def xG (c0:Int) (t:Tm) (v42 more9:Int):St UU:=⟨[(1,(.func 198 [] [(pt 1000000)])),(9,(iI more9)),(40,(sB t.sys)),(41,(iI t.sys.length)),(42,(iI v42))],[(1000000,bI c0)],[],[]⟩
def Pb (c0:Int) (t:Tm) (v42:Int) (x4:(Br Tm)) (more9:Int) (v49:Int):St UU:=⟨[(1,(.func 198 [] [(pt 1000000)])),(9,(iI more9)),(40,(sB t.sys)),(41,(iI t.sys.length)),(42,(iI v42)),(47,(sT x4.kids)),(48,(iI x4.kids.length)),(49,(iI v49))],[(1000000,bI c0)],[],[]⟩
section
variable (hd:f7 S) (k:Nat) (t:Tm) (c0:Int) (Z:Out UU->Option S)
theorem ZF (v42 x4 more9 Z1): ∀n v49,(pG hd k).lp Z 15 [Z1] n (Pb c0 t v42 x4 more9 v49)=qB hd k (iM c0 Z) (fun v42 more9=>Z1 (xG c0 t v42 more9)) c0 t v42 x4 more9 n v49:=eK (Aa hd k (iM c0 Z) c0 t v42 x4 more9 (fun v42 more9=>Z1 (xG c0 t v42 more9)))
theorem ZE: ∀n v42 more9,(pG hd k).lp Z 12 [] n (xG c0 t v42 more9)=mo hd k (iM c0 Z) c0 t n v42 more9:=bw (fun own=>vA hd k (iM c0 Z) c0 t (fun v42 x4 more9 v49=>qB hd k (iM c0 Z) own c0 t v42 x4 more9 k v49) own) rfl (fun _=>rfl) fun r v42 more9=>aj (b:=vA hd k (iM c0 Z) c0 t (fun v42 x4 more9 v49=>(pG hd k).lp Z 15 [r] k (Pb c0 t v42 x4 more9 v49)) (fun v42 more9=>r (xG c0 t v42 more9)) v42 more9) (by kernel_rfl) (by simp only [ZF])
theorem ZD: ∀n v17,(pG hd k).lp Z 2 [] n (Hv c0 t v17)=tF hd k (iM c0 Z) c0 t n v17:=eK (fun own=>vz hd k (iM c0 Z) c0 t (fun v42 more9=>mo hd k (iM c0 Z) c0 t k v42 more9) own) rfl (fun _=>rfl) fun r v17=>aj (b:=vz hd k (iM c0 Z) c0 t (fun v42 more9=>(pG hd k).lp Z 12 [] k (xG c0 t v42 more9)) (fun v17=>r (Hv c0 t v17)) v17) (by kernel_rfl) (by simp only [ZE])
end
theorem eX5 (o:Obj) (ho:ai o) (hd:f7 S) (Hd:Tl o 113 (yj hd)) (k:Nat):Tl o 116 (Sa hd k:Rw S):=am (pG hd k) ⟨wI k ho,eX4 o ho hd Hd k,trivial⟩ func116 fun t c0 Z x h=>aj (b:=Ki hd k (iM c0 Z) (fun v17=>(pG hd k).lp Z 2 [] k (Hv c0 t v17)) t c0) (by kernel_rfl) (aj (by simp only [ZD];rfl) (bv h))
def WG (hd:f7 S) (k:Nat):Fx S:=fp 12 [(116,Sa hd k)] [] k f113 0
theorem MT (o:Obj) (ho:ai o): ∀k:Nat,Tl o 113 (yj (me k:f7 S))
 |0=>jh fun t left Z x h=>by cases h
 |k+1=>am (WG (me k) k) ⟨eX5 o ho (me k) (MT o ho k) k,trivial⟩ func113 fun t left Z x h=>aj (by kernel_rfl) h
def C6 (hd:gK S):Rw S:=ah kX6 UW fun t c1 Z=>hd t c1 (kj Z)
def Im (hd:gK S) (k:Nat):Rw S:=ah Nt xX9 fun t c0 Z=>ab k (sf hd k t c0) (qX6 Z)
def Xl (hd:gK S) (k:Nat):Fx S:=fp 14 [(116,C6 hd)] [] k f199 2
theorem Mm (o:Obj) (ho:ai o) (hd:gK S) (Hd:Tl o 116 (C6 hd)) (k:Nat):Tl o 199 (Im hd k:Rw S):=am (Xl hd k) ⟨Hd,trivial⟩ func199 fun t c0 Z x h=>au h
def Sr (hd:gK S) (k:Nat):Rw S:=ah Nf UW fun a_k p p' c1 Z=>ab k (wD hd k a_k p p' c1) (kj Z)
def Xw (hd:gK S) (k:Nat):Fx S:=fp 11 [(199,Im hd k)] [] k f200 2
theorem eX8 (o:Obj) (ho:ai o) (hd:gK S) (Hd:Tl o 116 (C6 hd)) (k:Nat):Tl o 200 (Sr hd k:Rw S):=am (Xw hd k) ⟨Mm o ho hd Hd k,trivial⟩ func200 fun a_k p p' c1 Z x h=>au h
def pH (hd:gK S) (k:Nat):Fx S:=fp 60 [(49,t7 k),(200,Sr hd k)] [(2,ce [1,2,15,16,17] [(2,6),(1000000,1),(1000001,1)],aA 4 5),(12,ce [1,9,40,41,42] [(1000000,1),(1000001,1)],aA 7 47),(15,ce [1,9,40,41,42,47,48,49] [(1000000,1),(1000001,1)],aA 15 13103)] k f116 2
def Hw (t:Tm) (dh v17:Int):St UU:=⟨[(1,(.func 200 [] [(pt 1000000)])),(2,(pt 2)),(15,(sT t.kids)),(16,(iI t.kids.length)),(17,(iI v17))],[(2,bT t),(1000000,.cells [(.func 199 [] [(pt 1000001),(pt 1000000)])]),(1000001,bI dh)],[],[]⟩
def xH (t:Tm) (e1_0' v42 more9:Int):St UU:=⟨[(1,(.func 200 [] [(pt 1000000)])),(9,(iI more9)),(40,(sB t.sys)),(41,(iI t.sys.length)),(42,(iI v42))],[(1000000,.cells [(.func 199 [] [(pt 1000001),(pt 1000000)])]),(1000001,bI e1_0')],[],[]⟩
def Pe (t:Tm) (v42:Int) (x4:(Br Tm)) (more9:Int) (e1_0'' v49:Int):St UU:=⟨[(1,(.func 200 [] [(pt 1000000)])),(9,(iI more9)),(40,(sB t.sys)),(41,(iI t.sys.length)),(42,(iI v42)),(47,(sT x4.kids)),(48,(iI x4.kids.length)),(49,(iI v49))],[(1000000,.cells [(.func 199 [] [(pt 1000001),(pt 1000000)])]),(1000001,bI e1_0'')],[],[]⟩
section
variable (hd:gK S) (k:Nat) (t:Tm) (c1:Int) (Z:Out UU->Option S)
theorem ZK (v42 x4 more9 Z1): ∀n e1_0'' v49,(pH hd k).lp Z 15 [Z1] n (Pe t v42 x4 more9 e1_0'' v49)=np hd k (kj Z) (fun e1_0' v42 more9=>Z1 (xH t e1_0' v42 more9)) t v42 x4 more9 n e1_0'' v49:=bw (z8 hd k (kj Z) t v42 x4 more9 (fun e1_0' v42 more9=>Z1 (xH t e1_0' v42 more9)))
theorem ZJ: ∀n e1_0' v42 more9,(pH hd k).lp Z 12 [] n (xH t e1_0' v42 more9)=lv hd k (kj Z) t n e1_0' v42 more9:=iG (fun own=>vu hd k (kj Z) t (fun v42 x4 more9 e1_0'' v49=>np hd k (kj Z) own t v42 x4 more9 k e1_0'' v49) own) rfl (fun _=>rfl) fun r e1_0' v42 more9=>aj (b:=vu hd k (kj Z) t (fun v42 x4 more9 e1_0'' v49=>(pH hd k).lp Z 15 [r] k (Pe t v42 x4 more9 e1_0'' v49)) (fun e1_0' v42 more9=>r (xH t e1_0' v42 more9)) e1_0' v42 more9) (by kernel_rfl) (by simp only [ZK])
theorem ZI: ∀n dh v17,(pH hd k).lp Z 2 [] n (Hw t dh v17)=qz hd k (kj Z) t n dh v17:=bw (fun own=>vt hd k (kj Z) t (fun e1_0' v42 more9=>lv hd k (kj Z) t k e1_0' v42 more9) own) rfl (fun _=>rfl) fun r dh v17=>aj (b:=vt hd k (kj Z) t (fun e1_0' v42 more9=>(pH hd k).lp Z 12 [] k (xH t e1_0' v42 more9)) (fun dh v17=>r (Hw t dh v17)) dh v17) (by kernel_rfl) (by simp only [ZJ])
end
theorem MV (o:Obj) (ho:ai o): ∀k:Nat,Tl o 116 (C6 (jq k:gK S))
 |0=>jh fun t c1 Z x h=>by cases h
 |k+1=>am (pH (jq k) k) ⟨wI k ho,eX8 o ho (jq k) (MV o ho k) k,trivial⟩ func116 fun t c1 Z x h=>aj (b:=Kg (jq k) k (kj Z) (fun dh v17=>(pH (jq k) k).lp Z 2 [] k (Hw t dh v17)) t c1) (by kernel_rfl) (aj (by simp only [ZI];rfl) h)
def Sz:Rw S:=ah GK xn fun t most Z=>ab k (Bf k t most) (aH Z)
def XC:Fx S:=fp 10 [(199,Im (jq k) k)] [] k f114 0
theorem eX9 (ho:ai o):Tl o 114 (Sz k:Rw S):=am (XC k) ⟨Mm o ho (jq k) (MV o ho k) k,trivial⟩ func114 fun t most Z x h=>au h
def P_:Rw S:=ah gG xn fun t Z=>ab k (Be k t) (bD Z)
def U0:Fx S:=fp 11 [(113,yj (me k)),(114,Sz k)] [] k f50 0
theorem aa7 (ho:ai o):Tl o 50 (P_ k:Rw S):=am (U0 k) ⟨MT o ho k,eX9 k ho,trivial⟩ func50 fun t Z x h=>au h
def Qh:Rw S:=ah jx xn fun kind Z=>ab k (Bb k kind) (bD Z)
def U8:Fx S:=fp 38 [] [] k f201 0
theorem abe (ho:ai o):Tl o 201 (Qh k:Rw S):=am (U8 k) trivial func201 fun kind Z x h=>au h
def Ql:Rw S:=ah jx xn fun kind Z=>ab k (om k kind) (bD Z)
def Ve:Fx S:=fp 10 [] [] k f202 0
theorem abi (ho:ai o):Tl o 202 (Ql k:Rw S):=am (Ve k) trivial func202 fun kind Z x h=>au h
def Qn:Rw S:=ah M7 xn fun s Z=>ab k (Bd k s) (aH Z)
def uD:Fx S:=fp 49 [] [(2,ce [0,7,8] [],aA 4 5),(1000006,ce [0,3,4,5,7,8] [],aA 12 3685)] k f203 0
def xo (s:ByteArray) (v8:Int):St UU:=⟨[(0,(.str s)),(7,(.int .i64 (s.size:Int))),(8,(iI v8))],[],[],[]⟩
def NU (s:ByteArray) (v8:Int) (x1:UInt8) (letter5:Bool):St UU:=⟨[(0,(.str s)),(3,(iI v8)),(4,(.int .u8 (x1.toNat:Int))),(5,(.bool letter5)),(7,(.int .i64 (s.size:Int))),(8,(iI v8))],[],[],[]⟩
section
variable (k:Nat) (s:ByteArray) (Z:Out UU->Option S)
theorem X4 (v8 x1 Z0): ∀n letter5,(uD k).jn Z 1000006 [Z0] n (NU s v8 x1 letter5)=B7 k (aH Z) (fun v8=>Z0 (xo s v8)) s v8 x1 n letter5:=GG (E7 k (aH Z) s v8 x1 (fun v8=>Z0 (xo s v8)))
theorem X3: ∀n v8,(uD k).lp Z 2 [] n (xo s v8)=qC k (aH Z) s n v8:=eK (fun own=>vB k (aH Z) s (fun v8 x1 letter5=>B7 k (aH Z) own s v8 x1 k letter5) own) rfl (fun _=>rfl) fun r v8=>aj (b:=vB k (aH Z) s (fun v8 x1 letter5=>(uD k).jn Z 1000006 [r] k (NU s v8 x1 letter5)) (fun v8=>r (xo s v8)) v8) (by kernel_rfl) (by simp only [X4])
end
theorem abk (ho:ai o):Tl o 203 (Qn k:Rw S):=am (uD k) trivial func203 fun s Z x h=>aj (b:=Kj k (aH Z) (fun v8=>(uD k).lp Z 2 [] k (xo s v8)) s) (by kernel_rfl) (aj (by simp only [X3];rfl) (bv h))
def Qo:Rw S:=ah wZ xn fun s Z=>ab k (rR k s) (aH Z)
def Vi:Fx S:=fp 6 [] [] k f276 0
theorem abl (ho:ai o):Tl o 276 (Qo k:Rw S):=am (Vi k) trivial func276 fun s Z x h=>au h
def HV:Rw S:=ah p_ xn fun c Z=>ab k (vK k c) (aH Z)
def Vm:Fx S:=fp 11 [(276,Qo k)] [] k f224 0
theorem LY (ho:ai o):Tl o 224 (HV k:Rw S):=am (Vm k) ⟨abl k ho,trivial⟩ func224 fun c Z x h=>au h
def CS:Rw S:=ah w5 xn fun a b Z=>ab k (rH k a b) (P5 Z)
def Vt:Fx S:=fp 16 [] [] k f278 0
theorem F7 (ho:ai o):Tl o 278 (CS k:Rw S):=am (Vt k) trivial func278 fun a b Z x h=>au h
def QF:Rw S:=ah w5 xn fun a b Z=>ab k (Ak k a b) (aH Z)
def VC:Fx S:=fp 10 [(278,CS k)] [] k f229 0
theorem abC (ho:ai o):Tl o 229 (QF k:Rw S):=am (VC k) ⟨F7 k ho,trivial⟩ func229 fun a b Z x h=>au h
def QO:Rw S:=ah B0 yH fun d c0 Z=>ab k (Am k d c0) (P8 c0 Z)
def VM:Fx S:=fp 12 [(229,QF k)] [] k f228 1
theorem abM (ho:ai o):Tl o 228 (QO k:Rw S):=am (VM k) ⟨abC k ho,trivial⟩ func228 fun d c0 Z x h=>au h
def QZ:Rw S:=ah Na yH fun s c0 Z=>ab k (FS k s c0) (CN c0 Z)
def D8:Fx S:=fp 19 [(228,QO k)] [(2,ce [0,1,7,8] [(1000000,2)],aA 4 5)] k f277 1
def Oc (c0:Cl) (s:List Cl) (v8:Int):St UU:=⟨[(0,(sC s)),(1,(.func 228 [] [(pt 1000000)])),(7,(iI s.length)),(8,(iI v8))],[(1000000,bC c0)],[],[]⟩
section
variable (k:Nat) (s:List Cl) (c0:Cl) (Z:Out UU->Option S)
theorem Yo: ∀n v8,(D8 k).lp Z 2 [] n (Oc c0 s v8)=tA k (CN c0 Z) c0 s n v8:=eK (zY k (CN c0 Z) c0 s)
end
theorem abX (ho:ai o):Tl o 277 (QZ k:Rw S):=am (D8 k) ⟨abM k ho,trivial⟩ func277 fun s c0 Z x h=>aj (b:=Kc k (CN c0 Z) (fun v8=>(D8 k).lp Z 2 [] k (Oc c0 s v8)) s c0) (by kernel_rfl) (aj (by simp only [Yo];rfl) (bv h))
def Q3:Rw S:=ah Na yH fun s c0 Z=>ab k (FQ k s c0) (P8 c0 Z)
def V0:Fx S:=fp 9 [(277,QZ k)] [] k f227 1
theorem ab1 (ho:ai o):Tl o 227 (Q3 k:Rw S):=am (V0 k) ⟨abX k ho,trivial⟩ func227 fun s c0 Z x h=>au h
def Q9:Rw S:=ah B0 amV fun c c0 Z=>ab k (Al k c c0) (aiY c0 Z)
def V7:Fx S:=fp 7 [(227,Q3 k)] [] k f226 1
theorem ab7 (ho:ai o):Tl o 226 (Q9 k:Rw S):=am (V7 k) ⟨ab1 k ho,trivial⟩ func226 fun c c0 Z x h=>au h
def lK:Rw S:=ah ig xn fun l Z=>ab k (jX k l) (aG Z)
def uH:Fx S:=fx 55 (fun _=>[]) (fun|53=>true|_=>false) [(224,HV k),(226,Q9 k)] [(4,⟨[(4,aa),(5,aa),(13,aa),(14,aa),(15,aa)],[(5,[ar 200320]),(12,[])]⟩,aA 6 23),(15,⟨[(8,aa),(9,ar 100009),(34,aa),(35,aa),(36,aa)],[(5,[aa])]⟩,aA 9 191)] k f146 false [] 0
def Hp (l:List Cl) (g5:List (Cl×Bool)) (b5_0:List Cl) (v15:Int):St UU:=⟨[(4,(.mp 12)),(5,(pt 5)),(13,(sC l)),(14,(iI l.length)),(15,(iI v15))],[(5,.cells [(.own 200320 0)]),(12,.map ET.C g5)],[(200320,⟨0,ET.C,b5_0⟩)],[(200320,.wr)]⟩
def OB (b5_0:List Cl) (v36:Int) (kept9:List Cl):St UU:=⟨[(8,(.func 226 [] [(pt 5)])),(9,(.own 100009 0)),(34,(sC b5_0)),(35,(iI b5_0.length)),(36,(iI v36))],[(5,.cells [(sC b5_0)])],[(100009,⟨0,ET.C,kept9⟩)],[(100009,.wr)]⟩
section
variable (k:Nat) (l:List Cl) (Z:Out UU->Option S)
theorem YT (b5_0): ∀n v36 kept9,(uH k).lp Z 15 [] n (OB b5_0 v36 kept9)=qb k (aG Z) b5_0 n v36 kept9:=bw (yR k (aG Z) b5_0)
theorem YS: ∀n g5 b5_0 v15,(uH k).lp Z 4 [] n (Hp l g5 b5_0 v15)=sJ k (aG Z) l n g5 b5_0 v15:=iG (fun own=>uT k (aG Z) l (fun b5_0 v36 kept9=>qb k (aG Z) b5_0 k v36 kept9) own) rfl (fun _=>rfl) fun r g5 b5_0 v15=>aj (b:=uT k (aG Z) l (fun b5_0 v36 kept9=>(uH k).lp Z 15 [] k (OB b5_0 v36 kept9)) (fun g5 b5_0 v15=>r (Hp l g5 b5_0 v15)) g5 b5_0 v15) (by kernel_rfl) (by simp only [YT])
end
theorem mh (ho:ai o):Tl o 146 (lK k:Rw S):=am (uH k) ⟨LY k ho,ab7 k ho,trivial⟩ func146 fun l Z x h=>aj (b:=I9 k (aG Z) (fun g5 b5_0 v15=>(uH k).lp Z 4 [] k (Hp l g5 b5_0 v15)) l) (by kernel_rfl) (aj (by simp only [YS];rfl) (bv h))
def Rh:Rw S:=ah lm xn fun s1 s2 Z=>ab k (Ba k s1 s2) (aH Z)
def Ek:Fx S:=fp 26 [] [(4,ce [0,1,12,13] [],aA 5 11)] k f223 0
def OI (s1 s2:List Cl) (v13:Int):St UU:=⟨[(0,(sC s1)),(1,(sC s2)),(12,(iI s1.length)),(13,(iI v13))],[],[],[]⟩
section
variable (k:Nat) (s1 s2:List Cl) (Z:Out UU->Option S)
theorem Y2: ∀n v13,(Ek k).lp Z 4 [] n (OI s1 s2 v13)=tz k (aH Z) s1 s2 n v13:=eK (zX k (aH Z) s1 s2)
end
theorem acf (ho:ai o):Tl o 223 (Rh k:Rw S):=am (Ek k) trivial func223 fun s1 s2 Z x h=>aj (b:=Kb k (aH Z) (fun v13=>(Ek k).lp Z 4 [] k (OI s1 s2 v13)) s1 s2) (by kernel_rfl) (aj (by simp only [Y2];rfl) (bv h))
def qW:Rw S:=ah ig xn fun f Z=>ab k (lb k f) (aH Z)
def Wl:Fx S:=fp 17 [(146,lK k),(223,Rh k)] [] k f140 0
theorem sr (ho:ai o):Tl o 140 (qW k:Rw S):=am (Wl k) ⟨mh k ho,acf k ho,trivial⟩ func140 fun f Z x h=>au h
def yi:Rw S:=ah jx xn fun i Z=>ab k (pT k i) (aH Z)
def Wq:Fx S:=fp 9 [] [] k f232 0
theorem Bw (ho:ai o):Tl o 232 (yi k:Rw S):=am (Wq k) trivial func232 fun i Z x h=>au h
def CY:Rw S:=ah oI xn fun s i Z=>ab k (mU k s i) (d3 Z)
def Wr:Fx S:=fp 16 [(232,yi k)] [] k f233 0
theorem Gb (ho:ai o):Tl o 233 (CY k:Rw S):=am (Wr k) ⟨Bw k ho,trivial⟩ func233 fun s i Z x h=>au h
def CZ:Rw S:=ah ig xn fun f Z=>ab k (rL k f) (d3 Z)
def Ew:Fx S:=fp 22 [(233,CY k)] [(3,ce [3,6,7,8] [],aA 5 11)] k f150 0
def OT (f:List Cl) (s3 v8:Int):St UU:=⟨[(3,(iU s3)),(6,(sC f)),(7,(iI f.length)),(8,(iI v8))],[],[],[]⟩
section
variable (k:Nat) (f:List Cl) (Z:Out UU->Option S)
theorem Ze: ∀n s3 v8,(Ew k).lp Z 3 [] n (OT f s3 v8)=sP k (d3 Z) f n s3 v8:=bw (y9 k (d3 Z) f)
end
theorem Gc (ho:ai o):Tl o 150 (CZ k:Rw S):=am (Ew k) ⟨Gb k ho,trivial⟩ func150 fun f Z x h=>aj (b:=Jk k (d3 Z) (fun s3 v8=>(Ew k).lp Z 3 [] k (OT f s3 v8)) f) (by kernel_rfl) (aj (by simp only [Ze];rfl) (bv h))
def RI:Rw S:=ah B1 xn fun f dims Z=>ab k (oq k f dims) (aH Z)
def Wx:Fx S:=fp 15 [(150,CZ k)] [] k f204 0
theorem acC (ho:ai o):Tl o 204 (RI k:Rw S):=am (Wx k) ⟨Gc k ho,trivial⟩ func204 fun f dims Z x h=>au h
def If:Rw S:=ah p_ xn fun c Z=>ab k (vJ k c) (aH Z)
def WC:Fx S:=fp 9 [] [] k f269 0
theorem Mf (ho:ai o):Tl o 269 (If k:Rw S):=am (WC k) trivial func269 fun c Z x h=>au h
def RP:Rw S:=ah Nc xn fun s Z=>ab k (FT k s) (bD Z)
def EF:Fx S:=fp 19 [(269,If k)] [(2,ce [0,1,7,8] [],aA 4 5)] k f277 0
def OY (s:List Cl) (v8:Int):St UU:=⟨[(0,(sC s)),(1,(.func 269 [] [])),(7,(iI s.length)),(8,(iI v8))],[],[],[]⟩
section
variable (k:Nat) (s:List Cl) (Z:Out UU->Option S)
theorem Zj: ∀n v8,(EF k).lp Z 2 [] n (OY s v8)=tB k (bD Z) s n v8:=eK (zZ k (bD Z) s)
end
theorem acI (ho:ai o):Tl o 277 (RP k:Rw S):=am (EF k) ⟨Mf k ho,trivial⟩ func277 fun s Z x h=>aj (b:=Kd k (bD Z) (fun v8=>(EF k).lp Z 2 [] k (OY s v8)) s) (by kernel_rfl) (aj (by simp only [Zj];rfl) (bv h))
def RQ:Rw S:=ah Nc xn fun s Z=>ab k (FR k s) (aH Z)
def WH:Fx S:=fp 9 [(277,RP k)] [] k f227 0
theorem acJ (ho:ai o):Tl o 227 (RQ k:Rw S):=am (WH k) ⟨acI k ho,trivial⟩ func227 fun s Z x h=>au h
def t8:Rw S:=ah ig xn fun f Z=>ab k (mS k f) (aH Z)
def WJ:Fx S:=fp 10 [(140,qW k),(227,RQ k)] [] k f205 0
theorem wJ (ho:ai o):Tl o 205 (t8 k:Rw S):=am (WJ k) ⟨sr k ho,acJ k ho,trivial⟩ func205 fun f Z x h=>au h
def RY:Rw S:=ah sH xn fun t vars dims Z=>ab k (wB k t vars dims) (aH Z)
def uL:Fx S:=fp 138 [(140,qW k),(201,Qh k),(202,Ql k),(203,Qn k),(204,RI k),(205,t8 k)] [(1000003,ce [1,2,3] [(3,6)],aA 2 3),(15,ce [2,3,107,108,109] [(3,6)],aA 6 23)] k f115 0
def O1 (t:Tm) (vars dims:Int):St UU:=⟨[(1,(iI vars)),(2,(iI dims)),(3,(pt 3))],[(3,bT t)],[],[]⟩
def O2 (t:Tm) (dims:Int) (v109:Int):St UU:=⟨[(2,(iI dims)),(3,(pt 3)),(107,(sB t.sys)),(108,(iI t.sys.length)),(109,(iI v109))],[(3,bT t)],[],[]⟩
section
variable (k:Nat) (t:Tm) (vars dims:Int) (Z:Out UU->Option S)
theorem Zp: ∀n v109,(uL k).lp Z 15 [] n (O2 t dims v109)=nq k (aH Z) t dims n v109:=eK (Ab k (aH Z) t dims)
theorem Zo: ∀n,(uL k).jn Z 1000003 [] n (O1 t vars dims)=B8 k (aH Z) t vars dims n:=oH (vC k (aH Z) t vars dims (fun v109=>nq k (aH Z) t dims k v109)) rfl (fun _=>rfl) (aj (b:=vC k (aH Z) t vars dims (fun v109=>(uL k).lp Z 15 [] k (O2 t dims v109))) (by kernel_rfl) (by simp only [Zp]))
end
theorem acQ (ho:ai o):Tl o 115 (RY k:Rw S):=am (uL k) ⟨sr k ho,abe k ho,abi k ho,abk k ho,acC k ho,wJ k ho,trivial⟩ func115 fun t vars dims Z x h=>aj (b:=Kk k (aH Z) ((uL k).jn Z 1000003 [] k (O1 t vars dims)) t vars dims) (by kernel_rfl) (aj (by simp only [Zo];rfl) (bv h))
def yk (hd:fZ S):Rw S:=ah Nd xn fun t vars dims bound Z=>hd t vars dims bound (aH Z)
def R3 (hd:fZ S) (k:Nat):Rw S:=ah aeT UR fun a_k v d c0 c1 c2 Z=>ab k (wz hd k a_k v d c0 c1 c2) (kh c0 c1 c2 Z)
def WT (hd:fZ S) (k:Nat):Fx S:=fp 21 [(51,yk hd)] [] k f117 3
theorem acW (o:Obj) (ho:ai o) (hd:fZ S) (Hd:Tl o 51 (yk hd)) (k:Nat):Tl o 117 (R3 hd k:Rw S):=am (WT hd k) ⟨Hd,trivial⟩ func117 fun a_k v d c0 c1 c2 Z x h=>au h
def R4 (hd:fZ S) (k:Nat):Rw S:=ah aeU UR fun t c0 c1 c2 Z=>ab k (Bc hd k t c0 c1 c2) (kh c0 c1 c2 Z)
def pF (hd:fZ S) (k:Nat):Fx S:=fp 60 [(49,t7 k),(117,R3 hd k)] [(2,ce [1,2,15,16,17] [(2,6),(1000000,1),(1000001,1),(1000002,1)],aA 4 5),(12,ce [1,9,40,41,42] [(1000000,1),(1000001,1),(1000002,1)],aA 7 47),(15,ce [1,9,40,41,42,47,48,49] [(1000000,1),(1000001,1),(1000002,1)],aA 15 13103)] k f116 3
def Ht (c0 c1:Int) (c2:Bool) (t:Tm) (v17:Int):St UU:=⟨[(1,(.func 117 [] [(pt 1000000),(pt 1000001),(pt 1000002)])),(2,(pt 2)),(15,(sT t.kids)),(16,(iI t.kids.length)),(17,(iI v17))],[(2,bT t),(1000000,bI c0),(1000001,bI c1),(1000002,.cells [(.bool c2)])],[],[]⟩
def xE (c0 c1:Int) (c2:Bool) (t:Tm) (v42 more9:Int):St UU:=⟨[(1,(.func 117 [] [(pt 1000000),(pt 1000001),(pt 1000002)])),(9,(iI more9)),(40,(sB t.sys)),(41,(iI t.sys.length)),(42,(iI v42))],[(1000000,bI c0),(1000001,bI c1),(1000002,.cells [(.bool c2)])],[],[]⟩
def O3 (c0 c1:Int) (c2:Bool) (t:Tm) (v42:Int) (x4:(Br Tm)) (more9:Int) (v49:Int):St UU:=⟨[(1,(.func 117 [] [(pt 1000000),(pt 1000001),(pt 1000002)])),(9,(iI more9)),(40,(sB t.sys)),(41,(iI t.sys.length)),(42,(iI v42)),(47,(sT x4.kids)),(48,(iI x4.kids.length)),(49,(iI v49))],[(1000000,bI c0),(1000001,bI c1),(1000002,.cells [(.bool c2)])],[],[]⟩
section
variable (hd:fZ S) (k:Nat) (t:Tm) (c0 c1:Int) (c2:Bool) (Z:Out UU->Option S)
theorem Zs (v42 x4 more9 Z1): ∀n v49,(pF hd k).lp Z 15 [Z1] n (O3 c0 c1 c2 t v42 x4 more9 v49)=oZ hd k (kh c0 c1 c2 Z) (fun v42 more9=>Z1 (xE c0 c1 c2 t v42 more9)) c0 c1 c2 t v42 x4 more9 n v49:=eK (z_ hd k (kh c0 c1 c2 Z) c0 c1 c2 t v42 x4 more9 (fun v42 more9=>Z1 (xE c0 c1 c2 t v42 more9)))
theorem Zr: ∀n v42 more9,(pF hd k).lp Z 12 [] n (xE c0 c1 c2 t v42 more9)=lw hd k (kh c0 c1 c2 Z) c0 c1 c2 t n v42 more9:=bw (fun own=>vw hd k (kh c0 c1 c2 Z) c0 c1 c2 t (fun v42 x4 more9 v49=>oZ hd k (kh c0 c1 c2 Z) own c0 c1 c2 t v42 x4 more9 k v49) own) rfl (fun _=>rfl) fun r v42 more9=>aj (b:=vw hd k (kh c0 c1 c2 Z) c0 c1 c2 t (fun v42 x4 more9 v49=>(pF hd k).lp Z 15 [r] k (O3 c0 c1 c2 t v42 x4 more9 v49)) (fun v42 more9=>r (xE c0 c1 c2 t v42 more9)) v42 more9) (by kernel_rfl) (by simp only [Zs])
theorem Zq: ∀n v17,(pF hd k).lp Z 2 [] n (Ht c0 c1 c2 t v17)=qA hd k (kh c0 c1 c2 Z) c0 c1 c2 t n v17:=eK (fun own=>vv hd k (kh c0 c1 c2 Z) c0 c1 c2 t (fun v42 more9=>lw hd k (kh c0 c1 c2 Z) c0 c1 c2 t k v42 more9) own) rfl (fun _=>rfl) fun r v17=>aj (b:=vv hd k (kh c0 c1 c2 Z) c0 c1 c2 t (fun v42 more9=>(pF hd k).lp Z 12 [] k (xE c0 c1 c2 t v42 more9)) (fun v17=>r (Ht c0 c1 c2 t v17)) v17) (by kernel_rfl) (by simp only [Zr])
end
theorem acX (o:Obj) (ho:ai o) (hd:fZ S) (Hd:Tl o 51 (yk hd)) (k:Nat):Tl o 116 (R4 hd k:Rw S):=am (pF hd k) ⟨wI k ho,acW o ho hd Hd k,trivial⟩ func116 fun t c0 c1 c2 Z x h=>aj (b:=Kh hd k (kh c0 c1 c2 Z) (fun v17=>(pF hd k).lp Z 2 [] k (Ht c0 c1 c2 t v17)) t c0 c1 c2) (by kernel_rfl) (aj (by simp only [Zq];rfl) (bv h))
def WS (hd:fZ S) (k:Nat):Fx S:=fp 24 [(115,RY k),(116,R4 hd k)] [] k f51 0
theorem MU (o:Obj) (ho:ai o): ∀k:Nat,Tl o 51 (yk (kG k:fZ S))
 |0=>jh fun t vars dims bound Z x h=>by cases h
 |k+1=>am (WS (kG k) k) ⟨acQ k ho,acX o ho (kG k) (MU o ho k) k,trivial⟩ func51 fun t vars dims bound Z x h=>aj (by kernel_rfl) h
def nE:Rw S:=ah gG xn fun t Z=>ab k (ld k t) (bD Z)
def WU:Fx S:=fp 12 [(50,P_ k),(51,yk (kG k))] [] k f40 0
theorem ow (ho:ai o):Tl o 40 (nE k:Rw S):=am (WU k) ⟨aa7 k ho,MU o ho k,trivial⟩ func40 fun t Z x h=>au h
def pf (hd:iR S):Rw S:=ah gG xn fun t Z=>hd t (bt Z)
def R5 (hd:iR S) (k:Nat):Rw S:=ah GM xn fun l Z=>ab k (wA hd k l) (Cu Z)
def EI (hd:iR S) (k:Nat):Fx S:=fp 19 [(41,pf hd)] [(3,⟨[(3,ar 100003),(6,aa),(7,aa),(8,aa)],[]⟩,aA 5 11)] k f92 0
def O5 (l:List Tm) (out3:List Tm) (v8:Int):St UU:=⟨[(3,(.own 100003 0)),(6,(sT l)),(7,(iI l.length)),(8,(iI v8))],[],[(100003,⟨0,ET.T,out3⟩)],[(100003,.wr)]⟩
section
variable (hd:iR S) (k:Nat) (l:List Tm) (Z:Out UU->Option S)
theorem Zu: ∀n out3 v8,(EI hd k).lp Z 3 [] n (O5 l out3 v8)=tD hd k (Cu Z) l n out3 v8:=bw (z7 hd k (Cu Z) l)
end
theorem acY (o:Obj) (ho:ai o) (hd:iR S) (Hd:Tl o 41 (pf hd)) (k:Nat):Tl o 92 (R5 hd k:Rw S):=am (EI hd k) ⟨Hd,trivial⟩ func92 fun l Z x h=>aj (b:=Kf hd k (Cu Z) (fun out3 v8=>(EI hd k).lp Z 3 [] k (O5 l out3 v8)) l) (by kernel_rfl) (aj (by simp only [Zu];rfl) (bv h))
def EH (hd:iR S) (k:Nat):Fx S:=fp 40 [(91,IC),(92,R5 hd k)] [(3,⟨[(2,aa),(3,aa),(20,aa),(21,aa),(22,aa)],[(2,[aa,aa,aa,ar 200131,ar 200132,ar 200133]),(3,[aa,aa,aa,aa,aa,ar 200197])]⟩,aA 5 11)] k f41 0
def O4 (t:Tm) (r1:List Cl) (r2:List Tm) (b3_5:List (Br Tm)) (v22:Int):St UU:=⟨[(2,(pt 2)),(3,(pt 3)),(20,(sB t.sys)),(21,(iI t.sys.length)),(22,(iI v22))],[(2,.cells [(iI 0),(iI 0),eC,(.own 200131 0),(.own 200132 0),(.own 200133 0)]),(3,.cells [(iI t.kind),(iI t.n),(.str t.name),(sC r1),(sT r2),(.own 200197 0)])],[(200197,⟨0,ET.B,b3_5⟩),(200133,dU),(200132,eh),(200131,dY)],[(200197,.wr),(200133,.wr),(200132,.wr),(200131,.wr)]⟩
section
variable (hd:iR S) (k:Nat) (t:Tm) (Z:Out UU->Option S)
theorem Zt (r1 r2): ∀n b3_5 v22,(EH hd k).lp Z 3 [] n (O4 t r1 r2 b3_5 v22)=tC hd k (bt Z) t r1 r2 n b3_5 v22:=bw (z6 hd k (bt Z) t r1 r2)
end
theorem sG (o:Obj) (ho:ai o): ∀k:Nat,Tl o 41 (pf (fT k:iR S))
 |0=>jh fun t Z x h=>by cases h
 |k+1=>am (EH (fT k) k) ⟨amc o ho,acY o ho (fT k) (sG o ho k) k,trivial⟩ func41 fun t Z x h=>aj (b:=Ke (fT k) k (bt Z) (fun r1 r2 b3_5 v22=>(EH (fT k) k).lp Z 3 [] k (O4 t r1 r2 b3_5 v22)) t) (by kernel_rfl) (aj (by simp only [Zt];rfl) h)
def nF:Rw S:=ah aeV eF fun t a_e c0 Z=>ab k (kA k t a_e c0) (lJ Z)
def WW:Fx S:=fp 23 [] [] k f93 1
theorem ox (ho:ai o):Tl o 93 (nF k:Rw S):=am (WW k) trivial func93 fun t a_e c0 Z x h=>au h
def ajD:Rw S:=ah w6 eF fun c0 Z=>ab k (iA k c0) (iM c0 Z)
def nG:Rw S:=ah w6 eF fun c0 Z=>ab k (iA k c0) (aH Z)
def WX:Fx S:=fp 8 [] [] k f94 1
theorem ac0 (ho:ai o):Tl o 94 (ajD k:Rw S):=am (WX k) trivial func94 fun c0 Z x h=>au h
theorem oy (ho:ai o):Tl o 94 (nG k:Rw S):=tlS (ac0 k ho) fun c0 Z x h=>aj (b:=ab k (iA k c0) (iM c0 (Fl _ Z))) (by kernel_rfl) (aj (congrArg (ab k (iA k c0)) (funext fun r=>if_pos rfl)) h)
def Ih:Rw S:=ah w7 eF fun t c0 Z=>ab k (pU k t c0) (ai1 Z)
def WY:Fx S:=fp 20 [(40,nE k),(41,pf (fT k)),(93,nF k),(94,nG k)] [] k f42 1
theorem Mh (ho:ai o):Tl o 42 (Ih k:Rw S):=am (WY k) ⟨ow k ho,sG o ho k,ox k ho,oy k ho,trivial⟩ func42 fun t c0 Z x h=>au h
end
end Go.Proofs.YtgajalidbabccaaGreatDoor
