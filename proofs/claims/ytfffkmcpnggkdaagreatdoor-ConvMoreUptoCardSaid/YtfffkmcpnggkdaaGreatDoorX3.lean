/- Part 3 of a proof; sources: wip/. -/
import Derived.Test.YtfffkmcpnggkdaaGreatDoorX2
import Derived.Test.YtfffkmcpnggkdaaGreatDoorRows
import Derived.ProofKit
import Derived.OpenShut
import Derived.ChangeArms
import Derived.Deep.Slices
import Derived.Shelf.SlSortCmp.NoneTotal
import Derived.Ground.SlsfProg
import Derived.Test.YtfffkmcpnggkdaaGreatDoorProg
import Derived.Shelf.Spec.TrailingZeros
import Derived.RangeFuncBound
import Derived.RangeFuncLeaves
import Derived.RangeFuncOwn
import Derived.OwnWalkIn
import Derived.TacticsInMore
import Derived.LoopNIn
import Derived.LoopIn
import Derived.Maps.RangeWalk
import Derived.Maps.AppendAt
import Derived.Test.YtfffkmcpnggkdaaGreatDoorCards
import Derived.Test.YtfffkmcpnggkdaaGreatDoorTie
import Derived.WalkKit
import Derived.ReadAgain
import Derived.Deep.DeepHandedRow
import Derived.Lib.LaidTab
import Derived.KernelRfl
open Array renaming getD_eq_getD_getElem?→HZ,getElem?_eq_some_iff→Hk
open Bool renaming and_eq_true→qk,not_true→va
open ByteArray renaming empty→pf
open Eq renaming trans→po
open Go.IntKind renaming wrap→ot
open Int renaming toNat_natCast→Ej
open List renaming append_nil→xS,getElem?_eq_getElem→zj,getElem?_eq_some_iff→De,length→EO,length_append→F6,length_cons→uN,length_eq_zero_iff→Iu,map_cons→Ft,mem_append→xN,mem_cons→xF,mem_map→xl,nil_append→zg,range→BF
open Nat renaming beq→qC,ble→xq,le_refl→xt,zero_add→EJ
open Option renaming bind→oa,bind_some→ql
set_option linter.unusedVariables false
set_option linter.unusedSimpArgs false
namespace Go.Proofs.YtfffkmcpnggkdaaGreatDoor
set_option maxRecDepth 100000
open Go PI
section
variable {S:Type} {k:Nat}
def AD (s:Nat) (f:LC):Nat:=f.foldl (fun s c=>s|||(c.pos.toNat|||c.neg.toNat)) s
def fS (f:LC):Nat:=AD 0 f&&&xB
def ie (f:LC):Int:=((fS f:Nat):Int)
def jJ (f:LC) (i:Nat):Bool:=f.any fun c=>c.pos.toNat.testBit i||c.neg.toNat.testBit i
theorem ahx (i:Nat): ∀ {f:LC} {s:Nat},(AD s f).testBit i=(s.testBit i||jJ f i):=by
 intro f
 induction f<;>simp_all [AD,jJ,Bool.or_assoc]
theorem D7 (f:LC) (i:Nat):(fS f).testBit i=(jJ f i&&decide (i<24)):=by
 grind [fS,g8,ahx]
theorem D6 (f:LC):fS f<16777216:=Nat.lt_of_le_of_lt Nat.and_le_right (by decide)
theorem aeB (hk:Fu k) (I:Int->OS S) {l:LC} (hl:aq l) (hlen:l.length<4294967296):
  ∀ (r p:LC) (m:Nat) (s:Nat),l=p++r->r.length<m->s<4294967296->qb k I l m (s:Int) (p.length:Int)=I (((AD s r&&&xB:Nat):Int)):=by
 intro r
 induction r with
 |nil=>
  intro p m s e A hs
  obtain ⟨m,rfl,z⟩:=py A
  simp only [qb,wY,xw e,n3,ag hk,vW hk (BC.of hs)]
  rfl
 |cons x r B=>
  intro p m s e A hs
  obtain ⟨m,rfl,z⟩:=py A
  obtain ⟨E,F,J,L⟩:=qH e (by omega)
  have q:aX x:=hl x (by grind)
  have ho:BC (ep x.pos x.neg):=FX q.1 q.2
  have M:s|||(x.pos.toNat|||x.neg.toNat)<4294967296:=by
   have h1:=q.1.1;have h2:=q.1.2;have T:=q.2.1;have W:=q.2.2
   have O:(2:Nat)^32=4294967296:=by decide
   exact Nat.or_lt_two_pow (n:=32) hs (Nat.or_lt_two_pow (n:=32) (by omega) (by omega))
  have es:ep (s:Int) (ep x.pos x.neg)=((s|||(x.pos.toNat|||x.neg.toNat):Nat):Int):=by rfl
  simp only [qb,wY,E,ae,F,ql,tS q.1 q.2,tS (BC.of hs) ho,J,es]
  exact B (p++[x]) m _ L z M
theorem Ha (hk:Fu k) {f:LC} (hf:aq f) (hlen:f.length<4294967296) (I:Int->OS S):A' k f I=I (ie f):=by
 simp only [A',HL]
 exact aeB hk I hf hlen f [] k 0 rfl (by omega) (by decide)
def dg (f:LC) (d:Int):Bool:=decide (∀i∈bW (fS f),(i:Int)<d)
theorem RZ (hk:Fu k) {f:LC} {d:Int} (hf:aq f) (hlen:f.length<4294967296) (hd:0<=d) (q:d<9223372036854775808) (I:Bool->OS S):lK k f d I=I (dg f d):=by
 simp only [lK,aY,ag hk,Ha hk hf hlen]
 by_cases h:d>=24
 ·grind [dg,sU]
 ·rw [if_neg h]
  obtain ⟨n,rfl⟩: ∃n:Nat,d=n:=⟨d.toNat,by omega⟩
  rw [iR n (by omega),yq (by omega),Ej,Nat.min_eq_left (by omega)]
  congr 1
  rw [ie,Es,dg,Bool.eq_iff_iff]
  simp only [beq_iff_eq,decide_eq_true_eq]
  have hdiv:(fS f/2^n=0)↔fS f<2^n:=Nat.div_eq_zero_iff_lt (Nat.two_pow_pos n)
  constructor
  ·grind [sU,Nat.lt_of_lt_of_le,Nat.pow_le_pow_right,Nat.testBit_lt_two_pow]
  ·intro x
   have:fS f<2^n:=by
    apply Nat.lt_pow_two_of_testBit
    grind [sU,oZ,D6]
   omega
def kz (c:Cl):Bool:= !bS c
def dv (l:LC):LC:=l.filter kz
def cV (f:LC):Bool:=xW f&&f.all fun c=> !bS c
def zo (f:LC):Prop:=RF f/\ ∀c∈f,bS c=false
theorem oB {f:LC} (h:aq f):cV f=true↔zo f:=by
 grind [cV,zo,L6]
theorem zo.right {f:LC} (h:zo f):cV f=true:=(oB h.1.2).2 h
theorem Ds {l:LC} {c:Cl} (h:c∈dv l):c∈l/\bS c=false:=by
 have:=List.mem_filter.1 h
 grind [kz]
theorem Jz {l:LC} (h:aq l):aq (dv l):=fun c hc=>h c (Ds hc).1
theorem LG {l:LC} (hl:aq l) (hc: ∀c∈l,bS c=false) (h:(bp l).2=0):zo (bp l).1:=by
 refine ⟨qX hl h,fun c q=> ?_⟩
 grind [bp,tc]
theorem GW:zo []:=⟨rA,fun c hc=>by cases hc⟩
theorem Bn {c:Cl} (h:RC c) (h':bS c=false):zo [c]:=⟨gS h,fun d hd=>by grind⟩
theorem Jy (l:LC):(dv l).length<=l.length:=List.length_filter_le _ _
theorem aeq (hk:Fu k) (I:Int->OS S) {l:LC} (hl:aq l) (hlen:l.length<2147483648):
  ∀ (r p:LC) (m:Nat),l=p++r->r.length<m-> ∃v:Int,decide (v>=0)=r.any bS/\qP k I l m (p.length:Int)=I v:=by
 intro r
 induction r with
 |nil=>
  intro p m h z
  obtain ⟨m,rfl,q⟩:=py z
  exact ⟨-1,rfl,by grind [qP,yd,n3]⟩
 |cons x r A=>
  intro p m h z
  obtain ⟨m,rfl,q⟩:=py z
  obtain ⟨E,F,J,B⟩:=qH h (by omega)
  have L:aX x:=hl x (by grind)
  obtain ⟨v,hv,M⟩:=A (p++[x]) m B q
  grind [qP,yd,ae,ag,Rf,n3]
theorem Hb (hk:Fu k) {f:LC} (hf:aq f) (hlen:f.length<2147483648) (I:Bool->OS S):pd k f I=I (cV f):=by
 obtain ⟨v,hv,x⟩:=aeq hk (fun r1:Int=>(fun q:Bool=>I (!q)) (decide (r1>=0))) hf hlen f [] k rfl (by omega)
 simp only [pd,ag hk,rH hk hf hlen,DU,DW,IN]
 grind [cV,xW,ae,n3]
theorem aGQ (hk:Fu k) (I:Int->OS S) {l:List (LC)} (hl: ∀f∈l,aq f/\f.length<2147483648) (hlen:l.length<4294967296):
  ∀ (r p:List (LC)) (m:Nat),l=p++r->r.length<m->mc k I l m (p.length:Int)=I (if r.all cV then 0 else 2):=by
 intro r
 induction r with
 |nil=>
  grind [py,mc,o6,n3]
 |cons x r A=>
  intro p m h q
  obtain ⟨m,rfl,z⟩:=py q
  obtain ⟨B,E,F,J⟩:=qH h (by omega)
  have L:=hl x (by grind)
  grind [mc,o6,ae,ag,Hb,n3]
theorem aH9 (hk:Fu k) {l:List (LC)} (hl: ∀f∈l,aq f/\f.length<2147483648) (hlen:l.length<4294967296) (I:Int->OS S):Z2 k l I=I (if l.all cV then 0 else 2):=by
 simp only [Z2,az8]
 exact aGQ hk I hl hlen l [] k rfl (by omega)
def gN (l:LC):LC×Int:=bp (dv l)
def sa (f:LC):LC×Int:=if xW f then gN f else ([],2)
def sg (f:LC):LC×Int:=if xW f then if (FG f).2=0 then gN (FG f).1 else ([],(FG f).2) else ([],2)
theorem Fc {l:LC} (hl:aq l) (h:(gN l).2=0):zo (gN l).1:=LG (Jz hl) (fun c hc=>(Ds hc).2) h
theorem FT {f:LC} (h:(sa f).2=0) (hf:aq f):zo (sa f).1:=by
 grind [sa,Fc]
theorem FU {f:LC} (h:(sg f).2=0) (hf:aq f):zo (sg f).1:=by
 unfold sg at h ⊢
 split
 ·next x=>
  rw [if_pos x] at h
  split
  ·next q=>rw [if_pos q] at h;exact Fc (ju q).2 h
  grind
 grind
theorem Rn (hk:Fu k) {c:Cl} (hc:aX c) (I:Cl×Bool->OS S):tJ k c I=I (c,kz c):=by
 simp only [tJ,ag hk,Rf hk hc];rfl
theorem ae0 (hk:Fu k) (I:LC->OS S) {l:LC} (hl:aq l) (hlen:l.length<2147483648):
  ∀ (r p:LC) (m:Nat) (o:LC),l=p++r->r.length<m->o.length+r.length<4294967296->jg k I l m (p.length:Int) o=I (o++dv r):=by
 intro r
 induction r with
 |nil=>
  grind [py,jg,wW,n3,dv]
 |cons x r J=>
  intro p m o h q ho
  obtain ⟨m,rfl,z⟩:=py q
  obtain ⟨A,B,E,L⟩:=qH h (by omega)
  have F:aX x:=hl x (by grind)
  simp only [uN] at ho
  simp only [jg,wW,A,ae,B,ql,ag hk,Rn hk F,E]
  grind [ae,J5,dv,n3]
theorem aji (hk:Fu k) {l:LC} (hl:aq l) (hlen:l.length<2147483648) (I:LC->OS S):yN k l I=I (dv l):=by
 simp only [yN,HJ]
 have:=ae0 hk I hl hlen l [] k [] rfl (by omega) (by grind)
 grind
theorem Rp (hk:Fu k) {f:LC} (hf:aq f) (hlen:f.length<2147483648) (I:LC×Int->OS S):tI k f I=I (sa f):=by
 have:=Jy f
 simp only [tI,ag hk,rH hk hf hlen,aji hk hf hlen,kX hk (Jz hf) (show (dv f).length<2147483648 by omega)]
 unfold sa
 cases xW f with
 |true=>rfl
 |false=>rfl
theorem ajd (hk:Fu k) {f:LC} (hf:aq f) (hlen:f.length<2147483648) (I:LC×Int->OS S):yI k f I=I (sg f):=by
 simp only [yI,ag hk,aja hk hf hlen,bG]
 unfold sg
 cases xW f with
 |true=>
  rw [if_pos rfl,if_pos rfl]
  by_cases q:(FG f).2=0
  ·have x:=ju q
   rw [decide_eq_true q,va,n3,if_pos q,Rp hk x.2 x.lt]
   unfold sa
   rw [if_pos x.right]
  grind [ae]
 |false=>
  rfl
def MZ (f g:LC):LC×Int:=gN (meets f g)
def EQ (f g:LC):LC×Int:=if cV f&&cV g then Iy f g else ([],2)
theorem ajf (hk:Fu k) {f g:LC} (hf:aq f) (q:aq g) (h1:f.length<1073741824) (h2:g.length<1073741824) (I:LC×Int->OS S):yL k f g I=I (Iy f g):=by
 simp only [yL,ag hk,zg]
 rw [J5 (by grind),J5 (by omega),kX hk (MY hf q) (by grind)]
 rfl
theorem aH8 (hk:Fu k) {f g:LC} (hf:aq f) (q:aq g) (h1:f.length<1073741824) (h2:g.length<1073741824) (I:LC×Int->OS S):y0 k f g I=I (EQ f g):=by
 simp only [y0,ag hk,aH9 hk (l:=[f,g]) (by grind) (by simp),ajf hk hf q h1 h2]
 have e:[f,g].all cV=(cV f&&cV g):=by simp
 unfold EQ
 rw [e]
 cases (cV f&&cV g)<;>grind [n3,ae]
theorem Af {f g:LC} (hf:zo f) (q:zo g) (h:(Iy f g).2=0):zo (Iy f g).1:=
 LG (MY hf.1.2 q.1.2) (fun c hc=>by
  rcases xN.1 hc with h|h
  ·exact hf.2 c h
  ·exact q.2 c h) h
theorem ajc (hk:Fu k) {b c:Cl} (hb:aX b) (hc:aX c) (I:Cl×Bool->OS S):yO k b c I=I (d9 c b,kz (d9 c b)):=by
 simp_all [yO,ag,G_,Rn,Aw]
theorem ae1 (hk:Fu k) (I:LC->OS S) {c:Cl} (hc:aX c) {l:LC} (hl:aq l) (hlen:l.length<2147483648):
  ∀ (r p:LC) (m:Nat) (o:LC),l=p++r->r.length<m->o.length+r.length<4294967296->p8 k I c l m (p.length:Int) o=I (o++dv (r.map (d9 c))):=by
 intro r
 induction r with
 |nil=>
  intro p m o h q ho
  obtain ⟨m,rfl,z⟩:=py q
  grind [p8,wV,n3,dv]
 |cons x r J=>
  intro p m o h q ho
  obtain ⟨m,rfl,z⟩:=py q
  obtain ⟨A,B,E,L⟩:=qH h (by omega)
  have F:aX x:=hl x (by grind)
  simp only [uN] at ho
  simp only [p8,wV,A,ae,B,ql,ag hk,ajc hk F hc,E]
  cases hb:kz (d9 c x)<;>grind [ae,J5,dv,n3]
theorem ajj (hk:Fu k) {c:Cl} (hc:aX c) {l:LC} (hl:aq l) (hlen:l.length<2147483648) (I:LC->OS S):yM k l c I=I (dv (l.map (d9 c))):=by
 simp only [yM,HI]
 have:=ae1 hk I hc hl hlen l [] k [] rfl (by omega) (by grind)
 grind
theorem aeO (hk:Fu k) (I:LC×Int->OS S) {g f:LC} (hf:aq f) (E:aq g) (J:f.length<32768) (L:g.length<32768):
  ∀ (r p:LC) (m:Nat) (o:LC),f=p++r->r.length<m->aq o->o.length+r.length*g.length<1073741825->p_ k I g f m (p.length:Int) o=I (bp (o++dv (meets r g))):=by
 intro r
 induction r with
 |nil=>
  intro p m o h A q ho
  obtain ⟨m,rfl,z⟩:=py A
  grind [p_,wX,n3,ag,kX,meets,dv]
 |cons x r M=>
  intro p m o h A q ho
  obtain ⟨m,rfl,z⟩:=py A
  obtain ⟨O,T,W,Y⟩:=qH h (by omega)
  have F:aX x:=hf x (by grind)
  have hmul:(x::r).length*g.length=r.length*g.length+g.length:=by grind
  rw [hmul] at ho
  have B:=Jy (g.map (d9 x))
  rw [List.length_map] at B
  simp only [p_,wX,O,ae,T,ql,ag hk,ajj hk F E (show g.length<2147483648 by omega),W]
  rw [J5 (by omega),M (p++[x]) m _ Y z (MY q fun c hc=>by
   obtain ⟨b,hb,rfl⟩:=xl.1 (Ds hc).1
   exact Aw F (E b hb)) (by grind)]
  grind [dv,meets]
theorem ajg (hk:Fu k) {f g:LC} (hf:aq f) (q:aq g) (h1:f.length<32768) (h2:g.length<32768) (I:LC×Int->OS S):pe k f g I=I (MZ f g):=by
 simp only [pe,HK]
 have hb:f.length*g.length<1073741824:=Nat.lt_of_le_of_lt (Nat.mul_le_mul (Nat.le_of_lt_succ h1) (Nat.le_of_lt_succ h2)) (by decide)
 have:=aeO hk I hf q h1 h2 f [] k [] rfl (by omega) (fun c hc=>by cases hc) (by grind)
 grind [MZ,gN]
theorem vo {f g:LC} (hf:aq f) (q:aq g) (h:(MZ f g).2=0):zo (MZ f g).1:=Fc (ND hf q) h
theorem Um {s i:Int} {j:Nat} (h:(Iw s i).toNat.testBit j=true):s.toNat.testBit j=true:=by
 grind [Iw,Ej,mm]
theorem Ao {c:Cl}:bS c=false↔ ∀j,¬ (c.pos.toNat.testBit j=true/\c.neg.toNat.testBit j=true):=by
 unfold bS
 rw [Bool.not_eq_false',decide_eq_true_eq]
 constructor
 ·intro h j ⟨h1,h2⟩
  have:(c.pos.toNat&&&c.neg.toNat).testBit j=true:=by grind
  grind
 ·intro h
  apply Nat.eq_of_testBit_eq
  grind
theorem Aa {c:Cl} {i:Int} (h:bS c=false):bS (eu i c)=false:=by
 rw [Ao] at h ⊢
 exact fun j ⟨h1,h2⟩=>h j ⟨Um h1,Um h2⟩
def LS (i:Int) (c:Cl) (h:LC) (q:LC×Int):LC×Int:=
 if q.2=0 then if (MZ [eu i c] q.1).2=0 then Iy h (MZ [eu i c] q.1).1 else ([],(MZ [eu i c] q.1).2) else ([],q.2)
def Iz (i:Int) (r h:LC) (c:Cl):LC×Int:=
 if bP c.pos i then LS i c h (sa r) else if bP c.neg i then LS i c h (sg r) else Iy h [eu i c]
def iG (f:LC) (i:Int) (r:LC):LC×Int:=if cV f&&xW r&&lL i then xJ (Iz i r) [] f else ([],2)
theorem N6 {i:Int} {c:Cl} {h:LC} {q:LC×Int} (z:zo h) (A:q.2=0->zo q.1) (x:(LS i c h q).2=0):zo (LS i c h q).1:=by
 unfold LS at x ⊢
 split
 ·next h1=>
  rw [if_pos h1] at x
  split
  ·next h2=>rw [if_pos h2] at x;exact Af z (vo (gS (kg i c)).2 (A h1).1.2 h2) x
  grind
 grind
theorem ahL {i:Int} {r h:LC} {c:Cl} (x:RF r) (z:zo h) (hc:bS c=false) (q:(Iz i r h c).2=0):zo (Iz i r h c).1:=by
 unfold Iz at q ⊢
 split
 ·next h1=>rw [if_pos h1] at q;exact N6 z (fun h=>FT h x.2) q
 ·next h1=>
  rw [if_neg h1] at q
  split
  ·next h2=>rw [if_pos h2] at q;exact N6 z (fun h=>FU h x.2) q
  grind [Af,Bn,kg,Aa]
theorem acX {i:Int} {r:LC} (q:RF r): ∀ {l h:LC},(∀c∈l,bS c=false)->zo h->(xJ (Iz i r) h l).2=0->zo (xJ (Iz i r) h l).1:=by
 intro l
 induction l<;>grind [xJ,ahL]
theorem ahO {f r:LC} {i:Int} (hf:aq f) (q:aq r) (h:(iG f i r).2=0):zo (iG f i r).1:=by
 unfold iG at h ⊢
 split
 ·next hc=>
  rw [if_pos hc] at h
  simp only [qk] at hc
  exact acX ((L6 q).1 hc.1.2) ((oB hf).1 hc.1.1).2 GW h
 grind
theorem faJ (hk:Fu k) (I:LC×Int->OS S) (x:Int->LC->OS S) (i:Int) (r f:LC) {h:LC} {v:Int} {g:LC} {e:Int} (A:RF h) (B:e=0->RF g):
  gv k I x i r f v h k g e=if e=0 then if (Iy h g).2=0 then x (ot .i64 (v+1)) (Iy h g).1 else I ([],(Iy h g).2) else I ([],e):=by
 obtain ⟨q,E⟩: ∃q,k=q+1:=⟨k-1,by omega⟩
 have: ∀j,j=q+1->gv k I x i r f v h j g e=wU k I i r f v h x g e:=by rintro j rfl;rfl
 rw [this k E]
 simp only [wU,bG]
 by_cases z:e=0
 ·have F:=A.len;have J:=(B z).len
  rw [decide_eq_true z,ae,if_pos z,ag hk,ajf hk A.2 (B z).2 (by omega) (by omega)]
  grind [n3,ae]
 grind [n3,ae]
theorem aeP (hk:Fu k) (I:LC×Int->OS S) {i:Int} {q:LC} (z:RF q) {l:LC} (hl:aq l) (hc: ∀c∈l,bS c=false) (hlen:l.length<2147483648):
  ∀ (r p:LC) (m:Nat) (h:LC),l=p++r->r.length<m->zo h->lY k I i q l m (p.length:Int) h=I (xJ (Iz i q) h r):=by
 intro r
 induction r with
 |nil=>
  intro p m h e E T
  obtain ⟨m,rfl,F⟩:=py E
  simp only [lY,mx,xw e,n3];rfl
 |cons x r ih=>
  intro p m h e E T
  obtain ⟨m,rfl,F⟩:=py E
  obtain ⟨W,Y,e3,e4⟩:=qH e (by omega)
  have B:aX x:=hl x (by grind)
  have J:bS x=false:=hc x (by grind)
  have L:=Bn (kg i x) (Aa J)
  have key: ∀ (g:LC) (e:Int),(e=0->zo g)->(Iz i q h x=if e=0 then Iy h g else ([],e))->gv k I (lY k I i q l m) i q l (p.length:Int) h k g e=I (xJ (Iz i q) h (x::r)):=by
   intro g e M A
   rw [faJ hk _ _ _ _ _ T.1 (fun h=>(M h).1),xJ,A]
   grind [Af]
  have em: ∀ (s:LC),RF s-> ∀ (f:LC×Int->OS S),pe k [Cl.mk (Iw x.pos i) (Iw x.neg i)] s f=f (MZ [eu i x] s):=fun s hs f=>ajg hk L.1.2 hs.2 (by simp) (by have:=hs.len;omega) f
  simp only [lY,mx,W,ae,Y,ql,ag hk,vW hk B.1,vW hk B.2,rF hk B.1,rF hk B.2,Rp hk z.2 z.lt,ajd hk z.2 z.lt,bG]
  cases hp:bP x.pos i with
  |true=>
   rw [ae]
   by_cases h1:(sa q).2=0
   ·have ho:=FT h1 z.2
    rw [decide_eq_true h1,ae,em _ ho.1]
    exact key _ _ (fun O=>vo L.1.2 ho.1.2 O) (by grind [Iz,LS])
   grind [n3,Iz,LS]
  |false=>
   rw [n3]
   cases hn:bP x.neg i with
   |true=>
    rw [ae]
    by_cases h1:(sg q).2=0
    ·have ho:=FU h1 z.2
     rw [decide_eq_true h1,ae,em _ ho.1]
     exact key _ _ (fun O=>vo L.1.2 ho.1.2 O) (by grind [Iz,LS])
    grind [n3,Iz,LS]
   |false=>
    grind [n3,eu,Iz]
theorem aje (hk:Fu k) {f r:LC} {i:Int} (hf:aq f) (q:aq r) (h1:f.length<2147483648) (h2:r.length<2147483648) (I:LC×Int->OS S):yJ k f i r I=I (iG f i r):=by
 simp only [yJ,HH,ag hk,Hb hk hf h1,ai8 hk,rH hk q h2]
 unfold iG lL
 cases ha:cV f with
 |false=>rfl
 |true=>
  rw [va,n3]
  by_cases hd:0<=i/\i<24
  ·rw [decide_eq_true hd,va,n3]
   cases hb:xW r with
   |false=>rfl
   |true=>
    rw [va,n3]
    exact aeP hk I ((L6 q).1 hb) hf ((oB hf).1 ha).2 h1 f [] k [] rfl (by omega) GW
  grind [ae]
end
section
mutual
def au:Tm->Nat
 | .mk _ _ _ _ q sys=>1+ay q+aI sys
def ay:LT->Nat
 |[]=>0
 |t::l=>au t+ay l
def aI:LB->Nat
 |[]=>0
 |b::l=>Fq b+aI l
def Fq:Br Tm->Nat
 | .mk _ q=>ay q
end
mutual
def am:Tm->Nat
 | .mk _ _ _ _ q sys=>max (aH q) (aO sys)+1
def aH:LT->Nat
 |[]=>0
 |t::l=>max (am t) (aH l)
def aO:LB->Nat
 |[]=>0
 |b::l=>max (Ez b) (aO l)
def Ez:Br Tm->Nat
 | .mk _ q=>aH q
end
theorem kZ (b:Br Tm):Fq b=ay b.c:=by cases b;rw [Fq]
theorem pD (b:Br Tm):Ez b=aH b.c:=by cases b;rw [Ez]
theorem mB (t:Tm):1<=au t:=by cases t;rw [au];omega
theorem k_: ∀ {l:LT} {x:Tm},x∈l->au x<=ay l:=by
 intro l
 induction l<;>grind [ay]
theorem we: ∀ {l:LB} {b:Br Tm},b∈l->ay b.c<=aI l:=by
 intro l
 induction l<;>grind [aI,kZ]
theorem D0: ∀ {l:LT} {x:Tm},x∈l->am x<=aH l:=by
 intro l
 induction l<;>grind [aH]
theorem JP: ∀ {l:LB} {b:Br Tm},b∈l->aH b.c<=aO l:=by
 intro l
 induction l<;>grind [aO,pD]
theorem gq {Q:Tm->Prop} (h: ∀kd n nm r ks sys,(∀x∈ks,Q x)->(∀b∈sys,∀x∈b.c,Q x)->Q (.mk kd n nm r ks sys)) (t:Tm):Q t:=by
 have: ∀m t,au t<=m->Q t:=by
  intro m
  induction m with
  |zero=>grind [mB]
  |succ m z=>
   intro t A
   cases t with
   |mk kd n nm r ks sys=>
    rw [au] at A
    refine h _ _ _ _ _ _ (fun x q=>z x ?_) fun b hb x q=>z x ?_
    ·have:=k_ q;omega
    ·have:=we hb;have:=k_ q;omega
 exact this _ t (xt _)
def iK:List Int:=[-1,0,0,0,2,1,2,2,2,1,1,3,1,3,2,2,1,1,1,0,0,0,4,1,0,0,1,5,2]
def ct (kd:Int):Int:=if kd<0\/kd>28 then-1 else iK.getD kd.toNat 0
def Ab (kd i:Int):Int:=if (i=1/\(kd=4\/kd=7))\/(i=0/\(kd=5\/kd=22\/kd=27)) then 1 else 0
def bJ (kd i:Int):Int:=if i=0/\(kd=11\/kd=12\/kd=14) then 1 else 0
def xV (kd:Int):Int:=if kd=16 then 2 else if kd=15\/kd=17\/kd=18 then 1 else 0
def av (kd:Int):Int:=if kd=15 then 1 else 0
theorem g7 (kd i:Int):0<=Ab kd i/\Ab kd i<=1:=by grind [Ab]
theorem gr (kd i:Int):0<=bJ kd i/\bJ kd i<=1:=by grind [bJ]
theorem KW (kd:Int):0<=av kd/\av kd<=1:=by grind [av]
def kP (c:UInt8):Bool:=(decide (97<=c.toNat)&&decide (c.toNat<=122))||(decide (65<=c.toNat)&&decide (c.toNat<=90))||decide (c.toNat=95)
def pG (c:UInt8):Bool:=decide (48<=c.toNat)&&decide (c.toNat<=57)
def p7:List UInt8->Bool
 |[]=>false
 |c::l=>kP c&&l.all fun d=>kP d||pG d
def bX (kd nV:Int) (b:Br Tm):Bool:=decide ((b.c.length:Int)=xV kd)&&(cV b.f&&dg b.f nV)
def cL (vars nV:Int):Tm->Bool
 | .mk kd n nm r q sys=>
  (decide (ct kd=q.length)&&(decide (kd=1\/n=0)&&(decide (kd=2\/nm.size=0)&&decide (xV kd=0->sys.length=0))))&&
  (if kd=1 then decide (r.length=0)&&(decide (0<=n)&&decide (vars<0\/n<vars))
   else if kd=2 then decide (r.length=0)&&p7 nm.data.toList
   else if kd=13\/kd=21\/kd=26 then xW r&&dg r nV
   else if kd=14 then cV r&&dg r nV
   else sys.all (bX kd nV)&&decide (r.length=0))
def cQ (vars v:Int):Int:=if vars<0 then vars else vars+v
mutual
def sL (bd:Bool) (vars nV:Int):Tm->Bool
 | .mk kd n nm r q sys=> !(bd&&decide (nV>24))&&(cL vars nV (.mk kd n nm r q sys)&&(bO bd vars nV kd 0 q&&ck bd vars nV kd sys))
def bO (bd:Bool) (vars nV kd:Int) (i:Nat):LT->Bool
 |[]=>true
 |t::l=>sL bd (cQ vars (Ab kd i)) (nV+bJ kd i) t&&bO bd vars nV kd (i+1) l
def ck (bd:Bool) (vars nV kd:Int):LB->Bool
 |[]=>true
 |b::l=>jT bd vars nV kd b&&ck bd vars nV kd l
def jT (bd:Bool) (vars nV kd:Int):Br Tm->Bool
 | .mk _ q=>ca bd vars nV kd q
def ca (bd:Bool) (vars nV kd:Int):LT->Bool
 |[]=>true
 |t::l=>sL bd vars (nV+av kd) t&&ca bd vars nV kd l
end
def bw (t:Tm):Int:=if am t>200 then 62 else if au t>20000 then 221 else if sL false (-1) 24 t then 0 else 100
mutual
def pr:Tm->Prop
 | .mk kd n nm r q sys=>(aG kd/\aG n/\nm.size<1073741824/\aq r/\r.length<1073741824/\q.length<1073741824/\sys.length<1073741824)/\aZ q/\ba sys
def aZ:LT->Prop
 |[]=>True
 |t::l=>pr t/\aZ l
def ba:LB->Prop
 |[]=>True
 |b::l=>Fa b/\ba l
def Fa:Br Tm->Prop
 | .mk f q=>(aq f/\f.length<1073741824/\q.length<1073741824)/\aZ q
end
theorem vg: ∀ {l:LT},aZ l↔ ∀t∈l,pr t:=by
 intro l
 induction l<;>grind [aZ]
theorem oh {b:Br Tm}:Fa b↔(aq b.f/\b.f.length<1073741824/\b.c.length<1073741824)/\ ∀t∈b.c,pr t:=by
 cases b;rw [Fa,vg]
theorem NR: ∀ {l:LB},ba l↔ ∀b∈l,(aq b.f/\b.f.length<1073741824/\b.c.length<1073741824)/\ ∀t∈b.c,pr t:=by
 intro l
 induction l<;>grind [ba,oh]
theorem pr.node {kd n nm r ks sys} (h:pr (.mk kd n nm r ks sys)):aG kd/\aG n/\nm.size<1073741824/\aq r/\r.length<1073741824/\ks.length<1073741824/\sys.length<1073741824:=by grind [pr]
theorem pr.bU {kd n nm r ks sys x} (h:pr (.mk kd n nm r ks sys)) (q:x∈ks):pr x:=by grind [pr,vg]
theorem pr.br {kd n nm r ks sys b} (h:pr (.mk kd n nm r ks sys)) (hb:b∈sys):(aq b.f/\b.f.length<1073741824/\b.c.length<1073741824)/\ ∀t∈b.c,pr t:=by grind [pr,NR]
theorem Zt {bd:Bool} {vars nV kd:Int}: ∀ {l:LT},ca bd vars nV kd l=l.all (sL bd vars (nV+av kd)):=by
 intro l
 induction l<;>grind [ca]
theorem wH {bd:Bool} {vars nV kd:Int}: ∀ {l:LB},ck bd vars nV kd l=l.all fun b=>b.c.all (sL bd vars (nV+av kd)):=by
 intro l
 induction l with
 |nil=>rfl
 |cons b l q=>cases b;simp_all [ck,jT,Zt]
section
variable {H:Type} {enc:TypeId×Value->H} {w:World} {base:Nat} {spare:Nat->Bool} {held:Bool} {o:Obj} {N:aN} {g:Gh UU}
noncomputable abbrev jG (enc:TypeId×Value->H) (w:World) (base:Nat) (spare:Nat->Bool) (held:Bool):=DataW.trod enc Tryz.prog w base spare held
def oM (o:Obj) (w:World) (N:aN) (g:Gh UU) (e:ET) (x:EL e) (cs:List Value):Prop:= ∀ (k:Nat) (p:PU),(Dg e x)[k]? =some p-> ∃v,cs[k]? =some v/\pw (LL o) w N g v p
theorem Dr {l:List (DataW H)}:l.length<=Rows.uptoBulkAll l:=by
 induction l with
 |nil=>simp [Rows.uptoBulkAll]
 |cons x r q=>
  have:1<=Rows.uptoBulk x:=by
   cases x with
   |lit l=>cases l<;>simp [Rows.uptoBulk]
   |_=>simp [Rows.uptoBulk]
  simp only [Rows.uptoBulkAll,uN];omega
theorem build {α β:Type} {R:Nat->β->α->Prop}: ∀ (elems:List β) (s:Nat),(∀i d,elems[i]? =some d-> ∃x,R (s+i) d x)-> ∃l:List α,l.length=elems.length/\ ∀i d,elems[i]? =some d-> ∃x,l[i]? =some x/\R (s+i) d x:=by
 intro elems
 induction elems with
 |nil=>intro s h;exact ⟨[],rfl,fun i d h=>by simp at h⟩
 |cons d r B=>
  intro s h
  obtain ⟨x,q⟩:=h 0 d rfl
  obtain ⟨l,hl,z⟩:=B (s+1) fun i A hd=>by
   obtain ⟨x,q⟩:=h (i+1) A (by simpa using hd)
   exact ⟨x,by rw [show s+1+i=s+(i+1) by omega];exact q⟩
  refine ⟨x::l,by simp [hl],fun i A hd=> ?_⟩
  cases i with
  |zero=>injection hd with hd;subst hd;exact ⟨x,rfl,q⟩
  |succ i=>
   obtain ⟨y,E,z⟩:=z i A (by simpa using hd)
   exact ⟨y,by simpa using E,by rw [show s+(i+1)=s+1+i by omega];exact z⟩
theorem FW (hN: ∀b o,¬N b o) {e:ET} {tS tE:TypeId} (ht:Tryz.prog.underlying tS=some (.slice tE)) (hc:Tryz.prog.cellsOf tE=pQ e) {Q:EL e->DataW H->Prop} {n:Nat} {cs:List Value} {d:DataW H} {pl:List MemPlace}
  (J: ∀ (cs:List Value) (d:DataW H) (pl:List MemPlace),jG enc w base spare held n tE cs=some (d,pl)-> ∃x:EL e,oM o w N g e x cs/\Q x d) (h:jG enc w base spare held (n+1) tS cs=some (d,pl)):
  ∃ (v:Value) (l:List (EL e)) (ds:List (DataW H)),cs=[v]/\pw (LL o) w N g v (.sl (U:=UU) e l .none)/\l.length=ds.length/\(∀ (i:Nat) (x:EL e) (y:DataW H),l[i]? =some x->ds[i]? =some y->Q x y)/\Rows.uptoBulkAll ds+1<=Rows.uptoBulk d:=by
 rcases DataW.trod_slice ht h with ⟨rfl,z⟩|⟨a,len,cap,elems,rest,m,hm,rfl,z,hb,hl,ax,hlen,L,_,_⟩
 ·injection z with z _
  subst z
  exact ⟨_,[],[],rfl,pw.sl (X:=LL o) (N:=N) (g:=g) none 0 0 e (show List (EL e) from []) .none (fun _ _=>undef) rfl (xt _) trivial (fun j x z=>by cases z) (fun j x z=>by cases z),rfl,fun i x y h=>by simp at h,by simp [Rows.uptoBulkAll,Rows.uptoBulk]⟩
 ·obtain rfl:n=m:=by omega
  injection z with z _
  subst z
  obtain ⟨l,F,M⟩:=build (R:=fun i (y:DataW H×List MemPlace) (x:EL e)=> ∃q,w.cells? base (a.add (i*Tryz.prog.cellsOf tE)) (Tryz.prog.cellsOf tE)=some q/\oM o w N g e x q/\Q x y.1) elems 0 fun i y I=>by
   have hi:i<len:=by rw [<-hlen];exact (De.1 I).1
   have:=L i hi
   rw [I] at this
   obtain ⟨q,h1,h2⟩:=Option.bind_eq_some_iff.1 this
   obtain ⟨x,O,T⟩:=J q y.1 y.2 h2
   exact ⟨x,q,by simpa using h1,O,T⟩
  have E: ∀ (j:Nat) (x:EL e),l[j]? =some x-> ∃ (y:DataW H×List MemPlace) (q:List Value),elems[j]? =some y/\w.cells? base (a.add (j*Tryz.prog.cellsOf tE)) (Tryz.prog.cellsOf tE)=some q/\oM o w N g e x q/\Q x y.1:=fun j x z=>by
   have hj:j<elems.length:=by rw [<-F];exact (De.1 z).1
   obtain ⟨x',B,q,h1,h2,W⟩:=M j _ (zj hj)
   rw [z] at B
   injection B with B
   subst B
   exact ⟨_,q,zj hj,by simpa using h1,h2,W⟩
  have A: ∀ (j:Nat) (x:EL e),l[j]? =some x-> ∀ (k:Nat) (p:PU),(Dg e x)[k]? =some p-> ∃v,w.cell? (a.add (j*(LL o).aR e+k))=some v/\pw (LL o) w N g v p:=fun j x z k p hp=>by
   obtain ⟨y,q,_,h1,h2,_⟩:=E j x z
   obtain ⟨v,hv,Y⟩:=h2 k p hp
   obtain ⟨_,ad,ao⟩:=World.cells?_some h1
   have hk:k<Tryz.prog.cellsOf tE:=by rw [<-ad];exact (De.1 hv).1
   have:=ao k hk
   rw [hv,Go.Deep.add_add,hc] at this
   exact ⟨v,this,Y⟩
  refine ⟨_,l,elems.map (·.1),rfl,pw.sl (X:=LL o) (some a) len cap e l .none (fun j k=>(w.cell? (a.add (j*(LL o).aR e+k))).getD undef) (by rw [<-hlen];exact F) hl trivial (fun j x z k p hp=> ?_) (fun j x z k p hp=> ?_),by simpa using F,fun i x y z I=> ?_,by simp [Rows.uptoBulk]⟩
  ·obtain ⟨v,hv,_⟩:=A j x z k p hp
   exact ⟨a,rfl,by simp [hv],hN _ _⟩
  ·obtain ⟨v,hv,Y⟩:=A j x z k p hp
   simp only [hv];exact Y
  ·obtain ⟨y',q,h1,_,_,W⟩:=E i x z
   have:y=y'.1:=by
    rw [List.getElem?_map,h1] at I
    injection I with I;exact I.symm
   subst this
   exact W
theorem NT {n:Nat} {cs:List Value} {d:DataW H} {pl:List MemPlace} (h:jG enc w base spare held n 3 cs=some (d,pl)): ∃z,cs=[.int .i64 z]/\aG z:=by
 obtain ⟨z,rfl,_,q⟩:=DataW.trod_int Tryz.underlying3 h
 refine ⟨z,rfl, ?_⟩
 simp [Lit.wf,IntKind.has] at q
 have h1:IntKind.i64.min= -9223372036854775808:=rfl
 have h2:IntKind.i64.max=9223372036854775807:=rfl
 unfold aG
 omega
theorem NU {n:Nat} {cs:List Value} {d:DataW H} {pl:List MemPlace} (h:jG enc w base spare held n 67 cs=some (d,pl)): ∃z,cs=[.int .u32 z]/\BC z:=by
 obtain ⟨z,rfl,_,q⟩:=DataW.trod_int Tryz.underlying67 h
 refine ⟨z,rfl, ?_⟩
 simp [Lit.wf,IntKind.has] at q
 have h1:IntKind.u32.min=0:=rfl
 have h2:IntKind.u32.max=4294967295:=rfl
 unfold BC
 omega
def QC (c:Cl) (d:DataW H):Prop:=aX c
def QT (t:Tm) (d:DataW H):Prop:=au t<=Rows.uptoBulk d/\(Rows.uptoBulk d<1073741824->pr t)
def QB (b:Br Tm) (d:DataW H):Prop:=Fq b<=Rows.uptoBulk d/\(Rows.uptoBulk d<1073741824->(aq b.f/\b.f.length<1073741824/\b.c.length<1073741824)/\ ∀t∈b.c,pr t)
theorem ahv {n:Nat} {cs:List Value} {d:DataW H} {pl:List MemPlace} (h:jG enc w base spare held n 69 cs=some (d,pl)): ∃x:EL ET.C,oM o w N g ET.C x cs/\QC (show Cl from x) d:=by
 obtain ⟨xs,m,rfl,_,hl,hlen,hf⟩:=DataW.trod_struct Tryz.underlying69 h
 have q:cs.length=2:=hl.trans (by kernel_rfl)
 match cs,q,xs,hlen with
 |[a,b],_,[F,y1],_=>
 have A:=hf 0 _ rfl
 have h1:=hf 1 _ rfl
 have z:Tryz.prog.cellsOf 67=1:=by kernel_rfl
 simp [z] at A h1
 obtain ⟨z0,B,k0⟩:=NU A
 obtain ⟨z1,E,k1⟩:=NU h1
 obtain rfl:a= .int .u32 z0:=by simpa using B
 obtain rfl:b= .int .u32 z1:=by simpa using E
 refine ⟨(⟨z0,z1⟩:Cl),fun k p hp=> ?_,⟨k0,k1⟩⟩
 match k,hp with
 |0,hp=>cases hp;exact ⟨_,rfl,.int _ _⟩
 |1,hp=>cases hp;exact ⟨_,rfl,.int _ _⟩
 |k+2,hp=>simp [Dg] at hp
theorem akx {l:List Tm} {ds:List (DataW H)} (hl:l.length=ds.length) (h: ∀ (i:Nat) (x:Tm) (y:DataW H),l[i]? =some x->ds[i]? =some y->QT x y):ay l<=Rows.uptoBulkAll ds/\(Rows.uptoBulkAll ds<1073741824-> ∀t∈l,pr t):=by
 induction l generalizing ds with
 |nil=>rw [ay];exact ⟨Nat.zero_le _,fun _ t q=>by cases q⟩
 |cons t l z=>
  cases ds with
  |nil=>cases hl
  |cons d ds=>
   obtain ⟨h1,h2⟩:=h 0 t d rfl rfl
   obtain ⟨i1,i2⟩:=z (ds:=ds) (by simpa using hl) fun i x y A B=>h (i+1) x y (by simpa using A) (by simpa using B)
   rw [ay,Rows.uptoBulkAll]
   refine ⟨by omega,fun hb u hu=> ?_⟩
   rcases xF.1 hu with rfl|hu
   ·exact h2 (by omega)
   ·exact i2 (by omega) u hu
theorem aky {l:List (Br Tm)} {ds:List (DataW H)} (hl:l.length=ds.length) (h: ∀ (i:Nat) (x:Br Tm) (y:DataW H),l[i]? =some x->ds[i]? =some y->QB x y):aI l<=Rows.uptoBulkAll ds/\(Rows.uptoBulkAll ds<1073741824->ba l):=by
 induction l generalizing ds with
 |nil=>rw [aI,ba];exact ⟨Nat.zero_le _,fun _=>trivial⟩
 |cons t l q=>
  cases ds with
  |nil=>cases hl
  |cons d ds=>
   obtain ⟨h1,h2⟩:=h 0 t d rfl rfl
   obtain ⟨i1,i2⟩:=q (ds:=ds) (by simpa using hl) fun i x y z A=>h (i+1) x y (by simpa using z) (by simpa using A)
   rw [aI,Rows.uptoBulkAll,ba,oh]
   exact ⟨by omega,fun hb=>⟨h2 (by omega),i2 (by omega)⟩⟩
theorem NS (B: ∀b o,¬N b o) {n:Nat} {cs:List Value} {d:DataW H} {pl:List MemPlace} (h:jG enc w base spare held n 23 cs=some (d,pl)):
  ∃ (v:Value) (l:List Cl),cs=[v]/\pw (LL o) w N g v (bZ l .none)/\aq l/\l.length+1<=Rows.uptoBulk d:=by
 cases n with
 |zero=>cases h
 |succ n=>
  obtain ⟨v,l,q,rfl,E,hl,F,hb⟩:=FW (e:=ET.C) (Q:=fun x d=>QC (show Cl from x) d) B Tryz.underlying23 (by kernel_rfl) (fun cs d pl h=>ahv h) h
  refine ⟨v,l,rfl,E,fun c hc=> ?_, ?_⟩
  ·obtain ⟨i,A⟩:=List.getElem?_of_mem hc
   have z:i<q.length:=by rw [<-hl];exact (De.1 A).1
   exact F i c _ A (zj z)
  ·have:=Dr (l:=q)
   have I: @EO Cl l=q.length:=hl
   omega
theorem ahu (I: ∀b o,¬N b o): ∀ (n:Nat),
  (∀ (cs:List Value) (d:DataW H) (pl:List MemPlace),jG enc w base spare held n 27 cs=some (d,pl)-> ∃x:EL ET.T,oM o w N g ET.T x cs/\QT (show Tm from x) d)/\
  (∀ (cs:List Value) (d:DataW H) (pl:List MemPlace),jG enc w base spare held n 62 cs=some (d,pl)-> ∃x:EL ET.B,oM o w N g ET.B x cs/\QB (show Br Tm from x) d)/\
  (∀ (cs:List Value) (d:DataW H) (pl:List MemPlace),jG enc w base spare held n 24 cs=some (d,pl)-> ∃ (v:Value) (l:List Tm),cs=[v]/\pw (LL o) w N g v (dO l .none)/\ay l+1<=Rows.uptoBulk d/\l.length+1<=Rows.uptoBulk d/\(Rows.uptoBulk d<1073741824-> ∀t∈l,pr t))/\
  (∀ (cs:List Value) (d:DataW H) (pl:List MemPlace),jG enc w base spare held n 25 cs=some (d,pl)-> ∃ (v:Value) (l:List (Br Tm)),cs=[v]/\pw (LL o) w N g v (dN l .none)/\aI l+1<=Rows.uptoBulk d/\l.length+1<=Rows.uptoBulk d/\(Rows.uptoBulk d<1073741824->ba l)):=by
 intro n
 induction n with
 |zero=>exact ⟨fun cs d pl h=>(by cases h),fun cs d pl h=>(by cases h),fun cs d pl h=>(by cases h),fun cs d pl h=>(by cases h)⟩
 |succ n ih=>
 obtain ⟨iT,iB,iK,iS⟩:=ih
 have c3:Tryz.prog.cellsOf 3=1:=by kernel_rfl
 have c9:Tryz.prog.cellsOf 9=1:=by kernel_rfl
 have z:Tryz.prog.cellsOf 23=1:=by kernel_rfl
 have A:Tryz.prog.cellsOf 24=1:=by kernel_rfl
 have M:Tryz.prog.cellsOf 25=1:=by kernel_rfl
 refine ⟨fun cs d pl h=> ?_,fun cs d pl h=> ?_,fun cs d pl h=> ?_,fun cs d pl h=> ?_⟩
 ·obtain ⟨xs,m,hm,q,hl,hlen,hf⟩:=DataW.trod_struct Tryz.underlying27 h
  obtain rfl:n=m:=by omega
  injection q with q _
  subst q
  have O:cs.length=6:=hl.trans (by kernel_rfl)
  match cs,O,xs,hlen with
  |[a0,a1,a2,a3,a4,a5],_,[y0,y1,y2,y3,y4,y5],_=>
  have E:=hf 0 _ rfl
  have h1:=hf 1 _ rfl
  have h2:=hf 2 _ rfl
  have h3:=hf 3 _ rfl
  have h4:=hf 4 _ rfl
  have h5:=hf 5 _ rfl
  simp [c3,c9,z,A,M] at E h1 h2 h3 h4 h5
  obtain ⟨z0,e0,k0⟩:=NT E
  obtain ⟨z1,e1,k1⟩:=NT h1
  obtain ⟨s,e2,k2,_⟩:=DataW.trod_string Tryz.underlying9 h2
  obtain ⟨v3,J,W,Y,k3,m3⟩:=NS (o:=o) (g:=g) I h3
  obtain ⟨v4,L,e4,r4,k4,m4,q4⟩:=iK _ _ _ h4
  obtain ⟨v5,l5,e5,r5,k5,m5,q5⟩:=iS _ _ _ h5
  obtain rfl:a0= .int .i64 z0:=by simpa using e0
  obtain rfl:a1= .int .i64 z1:=by simpa using e1
  obtain rfl:a2= .string s:=by simpa using e2
  obtain rfl:a3=v3:=by simpa using W
  obtain rfl:a4=v4:=by simpa using e4
  obtain rfl:a5=v5:=by simpa using e5
  have hs:s.size<Rows.uptoBulk y2.1:=by
   rw [k2]
   simp [Rows.uptoBulk]
  refine ⟨Tm.mk z0 z1 s J L l5,fun k p hp=> ?_, ?_,fun hb=> ?_⟩
  ·match k,hp with
   |0,hp=>cases hp;exact ⟨_,rfl,.int _ _⟩
   |1,hp=>cases hp;exact ⟨_,rfl,.int _ _⟩
   |2,hp=>cases hp;exact ⟨_,rfl,.str _⟩
   |3,hp=>cases hp;exact ⟨_,rfl,Y⟩
   |4,hp=>cases hp;exact ⟨_,rfl,r4⟩
   |5,hp=>cases hp;exact ⟨_,rfl,r5⟩
   |k+6,hp=>simp [Dg] at hp
  ·show au _<=_
   rw [au]
   simp only [Ft,List.map_nil,Rows.uptoBulk,Rows.uptoBulkAll]
   omega
  ·simp only [Ft,List.map_nil,Rows.uptoBulk,Rows.uptoBulkAll] at hb
   show pr _
   rw [pr,vg]
   exact ⟨⟨k0,k1,by omega,k3,by omega,by omega,by omega⟩,q4 (by omega),q5 (by omega)⟩
 ·obtain ⟨xs,m,hm,q,hl,hlen,hf⟩:=DataW.trod_struct Tryz.underlying62 h
  obtain rfl:n=m:=by omega
  injection q with q _
  subst q
  have ad:cs.length=2:=hl.trans (by kernel_rfl)
  match cs,ad,xs,hlen with
  |[a0,a1],_,[y0,y1],_=>
  have E:=hf 0 _ rfl
  have h1:=hf 1 _ rfl
  simp [z,A] at E h1
  obtain ⟨v3,J,W,Y,k3,m3⟩:=NS (o:=o) (g:=g) I E
  obtain ⟨v4,L,e4,r4,k4,m4,q4⟩:=iK _ _ _ h1
  obtain rfl:a0=v3:=by simpa using W
  obtain rfl:a1=v4:=by simpa using e4
  refine ⟨Br.mk J L,fun k p hp=> ?_, ?_,fun hb=> ?_⟩
  ·match k,hp with
   |0,hp=>cases hp;exact ⟨_,rfl,Y⟩
   |1,hp=>cases hp;exact ⟨_,rfl,r4⟩
   |k+2,hp=>simp [Dg] at hp
  ·show Fq _<=_
   rw [Fq]
   simp only [Ft,List.map_nil,Rows.uptoBulk,Rows.uptoBulkAll]
   omega
  ·simp only [Ft,List.map_nil,Rows.uptoBulk,Rows.uptoBulkAll] at hb
   exact ⟨⟨k3,by show J.length<_;omega,by show L.length<_;omega⟩,q4 (by omega)⟩
 ·obtain ⟨v,l,F,rfl,hr,hl,hq,hb⟩:=FW (e:=ET.T) (Q:=fun x d=>QT (show Tm from x) d) I Tryz.underlying24 (by kernel_rfl) iT h
  obtain ⟨s1,s2⟩:=akx (l:=l) hl hq
  have:=Dr (l:=F)
  have ao: @EO Tm l=F.length:=hl
  exact ⟨v,l,rfl,hr,by omega,by omega,fun hd=>s2 (by omega)⟩
 ·obtain ⟨v,l,F,rfl,hr,hl,hq,hb⟩:=FW (e:=ET.B) (Q:=fun x d=>QB (show Br Tm from x) d) I Tryz.underlying25 (by kernel_rfl) iB h
  obtain ⟨s1,s2⟩:=aky (l:=l) hl hq
  have:=Dr (l:=F)
  have ao: @EO (Br Tm) l=F.length:=hl
  exact ⟨v,l,rfl,hr,by omega,by omega,fun hd=>s2 (by omega)⟩
end
end
end Go.Proofs.YtfffkmcpnggkdaaGreatDoor
namespace Go.Proofs
open Go.Shelf
def Tryz.sortCl_ren:Go.Shelf.Ren:=⟨fun|6=>211|15=>236|14=>235|28=>260|29=>261|20=>252|21=>253|22=>254|23=>255|24=>256|25=>257|26=>258|27=>259|46=>267|47=>268|48=>269|49=>270|50=>271|57=>272|n=>n,fun|22=>23|24=>69|25=>202|3=>3|39=>169|0=>0|53=>67|55=>34|4=>4|46=>226|45=>225|50=>230|5=>5|9=>9|66=>235|70=>239|76=>241|77=>134|n=>n,fun|n=>n⟩
theorem Tryz.sortCl:Go.Proofs.SlLaysF0.n6 Tryz.prog Tryz.sortCl_ren:={
 mixed:=by kernel_rfl
 f6:=⟨Tryz.f211.name,by decide,Tryz.func211.trans (congrArg some (by kernel_rfl))⟩
 f14:=⟨Tryz.f235.name,by decide,Tryz.func235.trans (congrArg some (by kernel_rfl))⟩
 f15:=Tryz.func236.trans (congrArg some (by kernel_rfl))
 f20:=⟨Tryz.f252.name,by decide,Tryz.func252.trans (congrArg some (by kernel_rfl))⟩
 f21:=⟨Tryz.f253.name,by decide,Tryz.func253.trans (congrArg some (by kernel_rfl))⟩
 f22:=⟨Tryz.f254.name,by decide,Tryz.func254.trans (congrArg some (by kernel_rfl))⟩
 f23:=⟨Tryz.f255.name,by decide,Tryz.func255.trans (congrArg some (by kernel_rfl))⟩
 f24:=⟨Tryz.f256.name,by decide,Tryz.func256.trans (congrArg some (by kernel_rfl))⟩
 f25:=⟨Tryz.f257.name,by decide,Tryz.func257.trans (congrArg some (by kernel_rfl))⟩
 f26:=⟨Tryz.f258.name,by decide,Tryz.func258.trans (congrArg some (by kernel_rfl))⟩
 f27:=⟨Tryz.f259.name,by decide,Tryz.func259.trans (congrArg some (by kernel_rfl))⟩
 f28:=Tryz.func260.trans (congrArg some (by kernel_rfl))
 f29:=Tryz.func261.trans (congrArg some (by kernel_rfl))
 f46:=⟨Tryz.f267.name,by decide,Tryz.func267.trans (congrArg some (by kernel_rfl))⟩
 f47:=Tryz.func268.trans (congrArg some (by kernel_rfl))
 f48:=Tryz.func269.trans (congrArg some (by kernel_rfl))
 f49:=⟨Tryz.f270.name,by decide,Tryz.func270.trans (congrArg some (by kernel_rfl))⟩
 f50:=⟨Tryz.f271.name,by decide,Tryz.func271.trans (congrArg some (by kernel_rfl))⟩
 f57:=⟨Tryz.f272.name,by decide,Tryz.func272.trans (congrArg some (by kernel_rfl))⟩
 t0:=Tryz.underlying0
 a0:=Tryz.isAgg0
 z0:=Tryz.sizeOf0
 v0:=Tryz.zeroValue0
 t3:=Tryz.underlying3
 a3:=Tryz.isAgg3
 z3:=Tryz.sizeOf3
 v3:=Tryz.zeroValue3
 t4:=Tryz.underlying4
 a4:=Tryz.isAgg4
 z4:=Tryz.sizeOf4
 v4:=Tryz.zeroValue4
 t5:=Tryz.underlying5
 a5:=Tryz.isAgg5
 z5:=Tryz.sizeOf5
 v5:=Tryz.zeroValue5
 t9:=Tryz.underlying9
 a9:=Tryz.isAgg9
 z9:=Tryz.sizeOf9
 v9:=Tryz.zeroValue9
 t22:=Tryz.underlying23
 a22:=Tryz.isAgg23
 z22:=Tryz.sizeOf23
 v22:=Tryz.zeroValue23
 t25:=Tryz.underlying202
 a25:=Tryz.isAgg202
 z25:=Tryz.sizeOf202
 v25:=Tryz.zeroValue202
 t39:=Tryz.underlying169
 a39:=Tryz.isAgg169
 z39:=Tryz.sizeOf169
 v39:=Tryz.zeroValue169
 t45:=Tryz.underlying225
 a45:=Tryz.isAgg225
 z45:=Tryz.sizeOf225
 v45:=Tryz.zeroValue225
 t46:=Tryz.underlying226
 a46:=Tryz.isAgg226
 z46:=Tryz.sizeOf226
 v46:=Tryz.zeroValue226
 t50:=Tryz.underlying230
 a50:=Tryz.isAgg230
 z50:=Tryz.sizeOf230
 v50:=Tryz.zeroValue230
 t53:=Tryz.underlying67
 a53:=Tryz.isAgg67
 z53:=Tryz.sizeOf67
 v53:=Tryz.zeroValue67
 t55:=Tryz.underlying34
 a55:=Tryz.isAgg34
 z55:=Tryz.sizeOf34
 v55:=Tryz.zeroValue34
 t66:=Tryz.underlying235
 a66:=Tryz.isAgg235
 z66:=Tryz.sizeOf235
 v66:=Tryz.zeroValue235
 t70:=Tryz.underlying239
 a70:=Tryz.isAgg239
 z70:=Tryz.sizeOf239
 v70:=Tryz.zeroValue239
 t76:=Tryz.underlying241
 a76:=Tryz.isAgg241
 z76:=Tryz.sizeOf241
 v76:=Tryz.zeroValue241
 t77:=Tryz.underlying134
 a77:=Tryz.isAgg134
 z77:=Tryz.sizeOf134
 v77:=Tryz.zeroValue134}
end Go.Proofs
namespace Go.Proofs.YtfffkmcpnggkdaaGreatDoor
set_option maxRecDepth 100000
open Go PI
section
noncomputable section
def acN:Nat:=187
def acO:Nat:=79
noncomputable def G2 {S:Type}:List PU->List (pA UU)->(Out UU->Option S)->Option S
 |[.sl .C q .none],[],κ=>iz q fun r=>κ (.ret (bZ r .none) [])
 |_,_,_=> .none
noncomputable def GZ {S:Type}:List PU->List (pA UU)->(Out UU->Option S)->Option S
 |[.int .u32 q],[],κ=>vz q fun r=>κ (.ret (la r .none) [])
 |_,_,_=> .none
end
end
end Go.Proofs.YtfffkmcpnggkdaaGreatDoor
namespace Go.Proofs
open Go.Shelf Go.RowKit
set_option maxHeartbeats 1000000 in
theorem Tryz.tz32_core (x k idx:Nat) (w:World) (z:((x:Int)==0)=false)
  (key:bits BinOp.and IntKind.u32 (x:Int) (-(x:Int)%4294967296)*125613361%4294967296/134217728=(idx:Int))
  (A:idx<32) (hk:k<32) (q:w.cell? ⟨0,idx,none⟩=some (.int .u8 k)):
  Calls Tryz.prog 251 #[.int .u32 x] w fun e w'=>e= .returned (.int .i64 k)/\w'=w:=by
 go_enter Tryz.func251,Tryz.ntmps251
 go_wp2_with (simp only [key])
 go_ret
 exact ⟨rfl,rfl⟩
theorem Tryz.tz32 (x:Nat) (B:x<4294967296) (E:x≠0) (w:World) (hT:TabAt 0 Lib.deBruijn32tab w):
  Calls Tryz.prog 251 #[.int .u32 x] w fun e w'=>e= .returned (.int .i64 (Lib.ctz 32 x))/\w'=w:=by
 obtain ⟨z,hk⟩:=Lib.lowest_bit 32 x E B
 obtain ⟨F,A⟩:=Lib.deBruijn32_at _ hk
 have q:=hT _ F
 rw [A] at q
 exact Tryz.tz32_core x _ _ w (by simp;omega) (tz32_key x _ B E z) F hk q
end Go.Proofs
namespace Go.Proofs.YtfffkmcpnggkdaaGreatDoor
set_option maxRecDepth 100000
open Go PI
section
open Go Go.Shelf Go.RowKit
attribute [local go_sem] Oper.semAt_some
def eL (s:Nat):List Nat:=(BF 24).filter s.testBit
theorem ak1 (s:Nat) (F:s≠0) (h:s<16777216):eL s=Lib.ctz 32 s::eL (s&&&(s-1))/\s&&&(s-1)<s:=by
 obtain ⟨m,B,hk⟩:=Lib.ctzFrom_spec 32 s (by omega) (by omega)
 have e:Lib.ctz 32 s=Lib.ctzFrom 32 s:=by simp [Lib.ctz,F]
 rw [e]
 generalize Lib.ctzFrom 32 s=t at B hk
 have hs:s=2^(t+1)*m+2^t:=by
  rw [B,Nat.mul_add,Nat.mul_one,Nat.pow_succ,<-Nat.mul_assoc]
 have hp:0<2^t:=Nat.two_pow_pos t
 have I:2^(t+1)=2^t*2:=Nat.pow_succ 2 t
 have z:s-1=2^(t+1)*m+(2^t-1):=by omega
 have q: ∀j,s.testBit j=if j<t+1 then decide (t=j) else m.testBit (j-(t+1)):=fun j=>by
  rw [hs,Nat.testBit_two_pow_mul_add _ (by omega),Nat.testBit_two_pow]
 have J: ∀j,(s-1).testBit j=if j<t+1 then decide (j<t) else m.testBit (j-(t+1)):=fun j=>by
  rw [z,Nat.testBit_two_pow_mul_add _ (by omega),Nat.testBit_two_pow_sub_one]
 have x: ∀j,(s&&&(s-1)).testBit j=if j<t+1 then false else m.testBit (j-(t+1)):=fun j=>by
  rw [Nat.testBit_and,q,J]
  by_cases hj:j<t+1
  ·rw [if_pos hj,if_pos hj,if_pos hj]
   by_cases A:t=j
   ·rw [decide_eq_true A,decide_eq_false (by omega)];rfl
   ·rw [decide_eq_false A];rfl
  ·rw [if_neg hj,if_neg hj,if_neg hj,Bool.and_self]
 have O:s&&&(s-1)=2^(t+1)*m:=by
  apply Nat.eq_of_testBit_eq
  intro j
  rw [x]
  have:2^(t+1)*m=2^(t+1)*m+0:=rfl
  rw [this,Nat.testBit_two_pow_mul_add _ (by omega),Nat.zero_testBit]
 have A:t<24:=by
  apply Nat.lt_of_not_le
  intro hle
  have:2^24<=2^t:=Nat.pow_le_pow_right (by decide) hle
  have L:(2:Nat)^24=16777216:=by decide
  omega
 refine ⟨?_,by omega⟩
 unfold eL
 have M:BF 24=BF t++(t::(BF (23-t)).map (fun j=>t+1+j)):=by
  apply List.ext_getElem
  ·simp;omega
  ·intro i h1 h2
   simp only [List.getElem_range]
   by_cases E:i<t
   ·rw [List.getElem_append_left (by simpa using E)];simp
   ·rw [List.getElem_append_right (by simpa using E)]
    simp only [List.length_range]
    by_cases he:i=t
    ·subst he;simp
    ·obtain ⟨d,rfl⟩: ∃d,i=t+1+d:=⟨i-t-1,by omega⟩
     simp only [show t+1+d-t=d+1 by omega,List.getElem_cons_succ,List.getElem_map,List.getElem_range]
 rw [M,List.filter_append,List.filter_append]
 have f1:(BF t).filter s.testBit=[]:=List.filter_eq_nil_iff.2 fun j hj=>by
  have:=List.mem_range.1 hj
  rw [q,if_pos (by omega),decide_eq_false (by omega)];decide
 have f2:(BF t).filter (s&&&(s-1)).testBit=[]:=List.filter_eq_nil_iff.2 fun j hj=>by
  have:=List.mem_range.1 hj
  rw [x,if_pos (by omega)];decide
 rw [f1,f2,zg,zg,List.filter_cons_of_pos (by rw [q,if_pos (by omega)];simp),List.filter_cons_of_neg (by rw [x,if_pos (by omega)];decide)]
 congr 1
 apply List.filter_congr
 intro j hj
 obtain ⟨d,_,rfl⟩:=xl.1 hj
 rw [q,x,if_neg (by omega),if_neg (by omega)]
theorem akZ:eL 0=[]:=List.filter_eq_nil_iff.2 fun j _=>by rw [Nat.zero_testBit];decide
theorem ak0 (s:Nat):(eL s).length<=24:=by
 have:=List.length_filter_le s.testBit (BF 24)
 simpa [eL] using this
theorem adi (s:Int) (w:World):Calls Tryz.prog 231 #[.int .u32 s] w fun e w'=>e= .returned (.func (.func 250) #[] #[.pointer (some ⟨w.heap.size,0,none⟩)])/\w'=w.alloc (.cells #[.int .u32 s] 67):=by
 go_enter Tryz.func231,Tryz.ntmps231
 go_wp2
 go_ret
 exact ⟨rfl,rfl⟩
def Fo:Code:=(Code.region 3 #[{dst:=some 4,op:=Op.assign (Operand.tmp 7),type:=3,pos:= "mask.go:57",after:= #[],guard:=none}] false)
def Fp:Code:=(Code.block 1 (Code.region 4 #[{dst:=some 8,op:=Op.load 157 (Operand.tmp 3),type:=157,pos:= "mask.go:58",after:= #[],guard:=none},{dst:=some 9,op:=Op.move (Operand.tmp 4),type:=3,pos:= "mask.go:58",after:= #[],guard:=none},{dst:=some 10,op:=Op.buildSlice 157 1 #[(0,Operand.tmp 9)],type:=157,pos:= "mask.go:58",after:= #[{on:=1,ground:=Ground.data}],guard:=none},{dst:=some 11,op:=Op.call {callee:=Callee.builtin Builtin.append,args:= #[Operand.tmp 8,Operand.tmp 10],argTypes:= #[157,157]},type:=157,pos:= "mask.go:58",after:= #[{on:=0,ground:=Ground.data},{on:=2,ground:=Ground.data}],guard:=none},{dst:=none,op:=Op.store 157 (Operand.tmp 3) (Operand.tmp 11),type:=0,pos:= "mask.go:58",after:= #[{on:=3,ground:=Ground.data},{on:=3,ground:=Ground.chain},{on:=0,ground:=Ground.phase},{on:=1,ground:=Ground.phase},{on:=2,ground:=Ground.phase},{on:=3,ground:=Ground.phase}],guard:=none}] false))
def Mn (fn:FuncId) (s0:Int) (fv:Value) (Bo D:Nat) (st:LoopState) (q:Option Code):Loop:=
 {state:=st,pending:=q,fn,tmps:= #[.int .u32 s0,undef,.slice none 0 0,.pointer (some ⟨Bo,0,none⟩),undef,.int .u32 s0,fv,undef,undef,undef,undef,undef,undef],params:= #[7],assign:=Fo,body:=Fp,defers:=D}
def KT (x:Nat):Value:= .int .i64 (x:Int)
structure Jn (w0:World) (fn:FuncId) (s0:Int) (fv:Value) (Bo l D:Nat) (ss:List Nat) (W:World):Prop where
 box: ∃v,W.heap[Bo]? =some (.cells #[v] 157 (0,0))/\W.ownsRow w0.heap.size 3 1 v ss.length (ss.map KT)
 L:W.heap[l]? =some (.loop (Mn fn s0 fv Bo D .ready none))
 K:W.heap[D]? =some (.deferred (some []))
 below:Below w0.heap.size w0 W
theorem rk (W:World) (l:Nat) (o:Obj):W.grownBy (W.putObj l o) (some l):=
 ⟨rfl,rfl,rfl,by simp,fun k _ hk=>World.putObj_heap_other (fun e=>hk (by rw [e]))⟩
theorem Hj (W:World) (b:Nat) (v:Value):W.grownBy (W.setCell ⟨b,0,none⟩ v) (some b):=
 ⟨rfl,rfl,rfl,(KeepsWalks.setCell W _ v).size,fun k _ hk=>Below.heap_setCell _ _ _ k (fun e=>hk (by rw [e]))⟩
theorem mr {W:World} {base:Nat} {e:TypeId} {size:Nat} {v:Value} {k:Nat} {xs:List Value} (h:W.ownsRow base e size v k xs) {j:Nat} {o:Obj} (hj:W.heap[j]? =some o) (q: ∀cur,o≠ .cells cur e (0,0)):
  v.ownBlock=none\/v.ownBlock≠some j:=by
 rcases h.2 with ⟨rfl,_⟩|⟨g,cap,cur,rfl,_,x,_⟩
 ·exact .inl rfl
 ·refine .inr fun e'=> ?_
  have:g=j:=by simpa [Value.ownBlock] using e'
  subst this;rw [x] at hj;cases hj;exact q cur rfl
theorem m6 {W:World} {B:Nat} {v:Value} {t:TypeId} (h:W.heap[B]? =some (.cells #[v] t (0,0))):W.cell? ⟨B,0,none⟩=some v/\W.frozen? ⟨B,0,none⟩=false:=by
 constructor<;>simp [World.cell?,World.frozen?,h]
theorem Dm {W:World} {B:Nat} {v:Value} {t:TypeId} (v':Value) (h:W.heap[B]? =some (.cells #[v] t (0,0))):(W.setCell ⟨B,0,none⟩ v').heap[B]? =some (.cells #[v'] t (0,0)):=by
 obtain ⟨q,hk⟩:=Hk.1 h
 show (W.heap.modify B _)[B]? =_
 rw [Array.getElem?_eq_getElem (by rw [Array.size_modify];exact q),Array.getElem_modify_self,hk]
 rfl
theorem adk:(Tryz.prog.info? 3).map (fun i=>(i.zero,i.size,i.bytes))=some (some (.int .i64 0),1,8):=by kernel_rfl
set_option maxRecDepth 100000 in
set_option maxHeartbeats 2000000 in
theorem agB (F:Fence) (m:Nat) (w0:World) (fn:FuncId) (hfn:F.fn fn) (s0:Int) (fv:Value) (Bo Bi l D:Nat) (hBl:Bo≠l) (hDl:D≠l) (hDB:D≠Bo) (hBiBo:Bi≠Bo) (hBil:Bi≠l) (h0B:w0.heap.size<=Bo) (h0l:w0.heap.size<=l)
  (ss:List Nat) (x:Nat) (c:Value) (W:World) (h:Jn w0 fn s0 fv Bo l D ss W) (hi0:W.heap[Bi]? =some (.cells #[c] 67 (0,0))) (hlen:ss.length<24):
  YieldAt F m Tryz.prog l #[KT x] W fun e W'=>e= .returned (.bool true)/\Jn w0 fn s0 fv Bo l D (ss++[x]) W'/\W'.heap[Bi]? =some (.cells #[c] 67 (0,0)):=by
 obtain ⟨i0,hi,hz0,hz1,hz2⟩:=info_parts adk
 obtain ⟨v,hv,p9⟩:=h.box
 refine ⟨fn,#[.int .u32 s0,undef,.slice none 0 0,.pointer (some ⟨Bo,0,none⟩),undef,.int .u32 s0,fv,.int .i64 (x:Int),undef,undef,undef,undef,undef],Fo,Fp,by simpa [Mn,KT] using run_yield (P:=Tryz.prog) (args:= #[KT x]) h.L rfl,roundIn_of_wpIn hfn ?_⟩
 have hl:l<W.heap.size:=(Hk.1 h.L).1
 have hbr:=run_beginRound (P:=Tryz.prog) h.L rfl
 obtain ⟨W2,hW2⟩: ∃W2,W.putObj l (.loop {Mn fn s0 fv Bo D .ready none with state:= .busy})=W2:=⟨_,rfl⟩
 rw [hW2] at hbr
 have hg2:W.grownBy W2 (some l):=by rw [<-hW2];exact rk _ _ _
 have hv2:W2.heap[Bo]? =some (.cells #[v] 157 (0,0)):=by rw [<-hW2];exact (World.putObj_heap_other hBl).trans hv
 have hi2:W2.heap[Bi]? =some (.cells #[c] 67 (0,0)):=by rw [<-hW2];exact (World.putObj_heap_other hBil).trans hi0
 have hK2:W2.heap[D]? =some (.deferred (some [])):=by rw [<-hW2];exact (World.putObj_heap_other hDl).trans h.K
 have hL2:W2.heap[l]? =some (.loop {Mn fn s0 fv Bo D .ready none with state:= .busy}):=by rw [<-hW2];exact World.putObj_heap_same hl
 have hrow2:W2.ownsRow w0.heap.size 3 1 v ss.length (ss.map KT):=p9.kept hg2 (mr p9 h.L (fun cur e=>by cases e))
 have hb2:Below w0.heap.size w0 W2:=h.below.grown hg2 h.below.size (fun k e=>by cases e;exact h0l)
 obtain ⟨hc2,hf2⟩:=m6 hv2
 have hBlt:Bo<W2.heap.size:=(Hk.1 hv2).1
 have hBilt:Bi<W2.heap.size:=(Hk.1 hi2).1
 have hl2:l<W2.heap.size:=(Hk.1 hL2).1
 have hDlt:D<W2.heap.size:=(Hk.1 hK2).1
 have ne_of: ∀ {j:Nat} {o:Obj},W2.heap[j]? =some o->(∀cur,o≠ .cells cur 3 (0,0))->some j≠v.ownBlock:=fun hj hno=>by
  rcases mr hrow2 hj hno with e|e
  ·rw [e];simp
  ·exact fun e'=>e e'.symm
 clear hW2
 have hml:24<=maxLen:=by unfold maxLen;omega
 unfold Fo
 gi_wp2_with (rw [Oper.semAt_eq _ _ _ (fun c h=>by cases h)];go_simp;try go_bits)
 unfold Fp
 gi_wp2_with (first
  |(gi_at_builtin;refine wpListIn_append_own _ rfl _ _ 157 rfl w0.heap.size 3 i0 (.int .i64 0) 1 8 Tryz.underlying157 hi hz0 hz1 hz2 rfl (by decide) _ _ _ rfl (hrow2.alloc _) ⟨W2.heap.size,0,none⟩ 1 1 [KT x] rfl rfl (cell_one_new _ _ _) (by simp [Value.oneCell',KT]) (by omega) (by omega) (by have:=hb2.size;simp;omega) ?_;intro v' w3 hown' hg3 hnil3
    have hv3:w3.heap[Bo]? =some (.cells #[v] 157 (0,0)):=(hg3.block Bo (by simp;omega) (ne_of hv2 (fun cur e=>by cases e))).trans ((Below.heap_alloc _ _ Bo hBlt).trans hv2)
    obtain ⟨hc3,hf3⟩:=m6 hv3
    obtain ⟨g',cap',cur',rfl,hbase',hgb',hr1,hr2,hr3,hr4⟩: ∃g' cap' cur',v'= .slice (some ⟨g',0,none⟩) (ss.length+1) cap'/\w0.heap.size<=g'/\w3.heap[g']? =some (.cells cur' 3 (0,0))/\ss.length+1<=cap'/\cap'<=maxLen/\cur'.size=cap'*1/\cur'.toList.take ((ss.length+1)*1)=ss.map KT++[KT x]:=by
     rcases hown'.2 with ⟨_,h0⟩|h'
     ·exact absurd h0 (by omega)
     ·exact h'
    go_frame)
  |(rw [Oper.semAt_eq _ _ _ (fun c h=>by cases h)];go_simp;try go_bits))
 have hg3':(W2.alloc (.cells #[KT x] 3)).grownBy w3 v.ownBlock:=hg3
 have hL3:w3.heap[l]? =some (.loop {Mn fn s0 fv Bo D .ready none with state:= .busy}):=(hg3'.block l (by simp;omega) (ne_of hL2 (fun cur e=>by cases e))).trans ((Below.heap_alloc _ _ l hl2).trans hL2)
 have hK3:w3.heap[D]? =some (.deferred (some [])):=(hg3'.block D (by simp;omega) (ne_of hK2 (fun cur e=>by cases e))).trans ((Below.heap_alloc _ _ D hDlt).trans hK2)
 have hi3:w3.heap[Bi]? =some (.cells #[c] 67 (0,0)):=(hg3'.block Bi (by simp;omega) (ne_of hi2 (fun cur e=>by cases e))).trans ((Below.heap_alloc _ _ Bi hBilt).trans hi2)
 obtain ⟨w4,hw4⟩: ∃w4,w3.setCell ⟨Bo,0,none⟩ (.slice (some ⟨g',0,none⟩) (ss.length+1) cap')=w4:=⟨_,rfl⟩
 rw [hw4]
 have hg4:w3.grownBy w4 (some Bo):=by rw [<-hw4];exact Hj _ _ _
 have hv4:w4.heap[Bo]? =some (.cells #[.slice (some ⟨g',0,none⟩) (ss.length+1) cap'] 157 (0,0)):=by rw [<-hw4];exact Dm _ hv3
 have hL4:w4.heap[l]? =some (.loop {Mn fn s0 fv Bo D .ready none with state:= .busy}):=(hg4.block l (Hk.1 hL3).1 (fun e=>hBl (by cases e;rfl))).trans hL3
 have hK4:w4.heap[D]? =some (.deferred (some [])):=(hg4.block D (Hk.1 hK3).1 (fun e=>hDB (by cases e;rfl))).trans hK3
 have hi4:w4.heap[Bi]? =some (.cells #[c] 67 (0,0)):=(hg4.block Bi (Hk.1 hi3).1 (fun e=>hBiBo (by cases e;rfl))).trans hi3
 have hrow4:=hown'.kept hg4 (mr hown' hv3 (fun cur e=>by cases e))
 have hl4:l<w4.heap.size:=(Hk.1 hL4).1
 have hb3:Below w0.heap.size w0 w3:=(hb2.alloc hb2.size _).grown hg3' (by have:=hb2.size;simp;omega) (fun k e=>(hrow2.lt k e).1)
 have hb4:Below w0.heap.size w0 w4:=hb3.grown hg4 hb3.size (fun k e=>by cases e;exact h0B)
 clear hw4
 refine ⟨_,_,run_endRound none hL4,rfl,⟨⟨_,(World.putObj_heap_other hBl).trans hv4, ?_⟩,World.putObj_heap_same hl4,(World.putObj_heap_other hDl).trans hK4,hb4.grown (rk _ _ _) hb4.size (fun k e=>by cases e;exact h0l)⟩,(World.putObj_heap_other hBil).trans hi4⟩
 have:=hrow4.kept (rk w4 l (.loop {{Mn fn s0 fv Bo D .ready none with state:= .busy} with state:=if (none:Option Code).isNone then .ready else .done,pending:=none})) (mr hrow4 hL4 (fun cur e=>by cases e))
 simpa using this
def Ff (Bi:Nat) (w:World):Nat:=match w.cell? ⟨Bi,0,none⟩ with
 |some v=>(intOf v).toNat
 |none=>0
theorem LI {Bi:Nat} {w:World} {n:Nat} {t:TypeId} (h:w.heap[Bi]? =some (.cells #[.int .u32 (n:Int)] t (0,0))):Ff Bi w=n:=by
 unfold Ff;rw [(m6 h).1];simp [intOf]
theorem Zq {w0 W:World} (hT:TabAt 0 Lib.deBruijn32tab w0) (hb:Below w0.heap.size w0 W):TabAt 0 Lib.deBruijn32tab W:=fun j hj=>by
 have h:=hT j hj
 have q:0<w0.heap.size:=World.block_lt_of_cell? w0 ⟨0,j,none⟩ h
 exact (hb.cell (p:=⟨0,j,none⟩) q).trans h
theorem ZD (s:Int):bits .and .u32 s 16777215=(((BitVec.ofInt 32 s).toNat&&&16777215:Nat):Int):=by
 have q:(BitVec.ofInt 32 s).toNat&&&16777215<2^32:=Nat.and_lt_two_pow _ (by omega)
 show IntKind.u32.wrap ((BitVec.ofInt 32 s&&&BitVec.ofInt 32 16777215).toNat:Int)=_
 rw [BitVec.toNat_and,wrap_u32',show (BitVec.ofInt 32 16777215).toNat=16777215 from by decide]
 omega
def iE (s:Int):Nat:=(BitVec.ofInt 32 s).toNat&&&16777215
theorem ZE (s:Nat) (q:s≠0) (h:s<4294967296):bits .and .u32 (s:Int) ((s:Int)-1)=((s&&&(s-1):Nat):Int):=by
 have:(s:Int)-1=((s-1:Nat):Int):=by omega
 rw [this];exact bits_and_u32_nat s (s-1) h (by omega)
set_option maxRecDepth 100000 in
set_option maxHeartbeats 2000000 in
theorem agA (F:Fence) (n:Nat) (h250:F.fn 250) (h251:F.fn 251) (hro:F.round=none) (hn:1<=n) (w0:World) (fn:FuncId) (hfn:F.fn fn) (s0:Int) (fv:Value) (Bo Bi l D:Nat) (hBl:Bo≠l) (hDl:D≠l) (hDB:D≠Bo) (hBiBo:Bi≠Bo) (hBil:Bi≠l) (hBiD:Bi≠D)
  (h0B:w0.heap.size<=Bo) (h0l:w0.heap.size<=l) (h0i:w0.heap.size<=Bi) (hT:TabAt 0 Lib.deBruijn32tab w0) (s:Int) (W:World) (h:Jn w0 fn s0 fv Bo l D [] W) (hi0:W.heap[Bi]? =some (.cells #[.int .u32 s] 67 (0,0)))
  (htz: ∀ (x:Nat),x<4294967296->x≠0-> ∀W',TabAt 0 Lib.deBruijn32tab W'->CallsIn F (n-1) Tryz.prog 251 #[.int .u32 x] W' fun e w'=>e= .returned (.int .i64 (Lib.ctz 32 x))/\w'=W'):
  CallsIn F n Tryz.prog 250 #[.func (.yield l) #[] #[],.pointer (some ⟨Bi,0,none⟩)] W fun e W'=>(∃v,e= .returned v)/\Jn w0 fn s0 fv Bo l D (eL (iE s)) W':=by
 obtain ⟨hc0,hf0⟩:=m6 hi0
 have ha:bits .and .u32 s 16777215=((iE s:Nat):Int):=ZD s
 have hsl:iE s<16777216:=Nat.lt_of_le_of_lt Nat.and_le_right (by decide)
 generalize iE s=q at ha hsl ⊢
 refine callsIn_of_wp Tryz.func250 rfl h250 ?_ hro
 simp only [Tryz.ntmps250,List.size_toArray,uN,List.length_nil,Nat.reduceAdd,Nat.reduceSub,Array.replicate_succ,Array.replicate_zero,List.push_toArray,List.append_toArray,zg,List.cons_append]
 gi_wp2
 have hi1:=Dm (.int .u32 (q:Int)) hi0
 have hA1:Jn w0 fn s0 fv Bo l D [] (W.setCell ⟨Bi,0,none⟩ (.int .u32 (q:Int))):=by
  obtain ⟨v,hv,p9⟩:=h.box
  exact ⟨⟨v,(Below.heap_setCell _ _ _ Bo (fun e=>hBiBo e.symm)).trans hv,p9.kept (Hj _ _ _) (mr p9 hi0 (fun cur e=>by cases e))⟩,(Below.heap_setCell _ _ _ l (fun e=>hBil e.symm)).trans h.L,(Below.heap_setCell _ _ _ D (fun e=>hBiD e.symm)).trans h.K,h.below.setCell h0i _⟩
 gi_loopw [] (fun wr=> ∃ (pre:List Nat) (c:Nat),c<16777216/\pre++eL c=eL q/\Jn w0 fn s0 fv Bo l D pre wr/\wr.heap[Bi]? =some (.cells #[.int .u32 (c:Int)] 67 (0,0)))
  (fun wr=>Ff Bi wr)
 case atStart=>exact ⟨[],q,hsl,rfl,hA1,hi1⟩
 case round=>
  obtain ⟨pre,c,hc,hp,hA,hb⟩:=hrel
  clear hc0 hf0 ha hi1 hA1
  obtain ⟨hc1,hf1⟩:=m6 hb
  by_cases hz:c=0
  ·subst hz
   rw [akZ,xS] at hp
   gi_wp2
   go_end0
   exact ⟨⟨_,rfl⟩,hp▸hA⟩
  ·have hne:((c:Int)==0)=false:=by simp;omega
   have hne': ¬ ((c:Int)=0):=by omega
   have hstep:=ak1 c hz hc
   have hpl:pre.length<24:=by
    have h1:=ak0 q
    have h2:=congrArg EO hp
    rw [hstep.1,F6,uN] at h2
    omega
   obtain ⟨fn',tmps,assign,body,hy,hR⟩:=agB F (n-1) w0 fn hfn s0 fv Bo Bi l D hBl hDl hDB hBiBo hBil h0B h0l pre (Lib.ctz 32 c) (.int .u32 (c:Int)) wr hA hb hpl
   have hT1:=Zq hT hA.below
   have hap:=ZE c hz (by omega)
   unfold KT at hy
   have hyH:Hid (Lib.ctz 32 c=Lib.ctz 32 c):=rfl
   gi_wp2_with (gi_at_call 251;refine (htz c (by omega) hz _ hT1).mono ?_;rintro e w' ⟨rfl,rfl⟩)
   refine hR.mono ?_
   rintro e W3 ⟨rfl,hA3,hb3⟩
   obtain ⟨hc3,hf3⟩:=m6 hb3
   clear hc1 hf1 hA hy hR hT1
   gi_wp2
   have hb4:=Dm (.int .u32 ((c&&&(c-1):Nat):Int)) hb3
   have hlt:=hstep.2
   go_roundw
   case rel=>
    refine ⟨pre++[Lib.ctz 32 c],c&&&(c-1),by omega, ?_, ?_,hb4⟩
    ·rw [<-hp,hstep.1,List.append_assoc];rfl
    ·obtain ⟨v,hv,p9⟩:=hA3.box
     exact ⟨⟨v,(Below.heap_setCell _ _ _ Bo (fun e=>hBiBo e.symm)).trans hv,p9.kept (Hj _ _ _) (mr p9 hb3 (fun cur e=>by cases e))⟩,(Below.heap_setCell _ _ _ l (fun e=>hBil e.symm)).trans hA3.L,(Below.heap_setCell _ _ _ D (fun e=>hBiD e.symm)).trans hA3.K,hA3.below.setCell h0i _⟩
   case measure=>rw [LI hb4,LI hb];exact hlt
set_option maxRecDepth 100000 in
set_option maxHeartbeats 2000000 in
theorem agy (F:Fence) (n:Nat) (h187:F.fn 187) (h231:F.fn 231) (h250:F.fn 250) (h251:F.fn 251) (hro:F.round=none) (hn:3<=n) (s:Int) (w:World) (hT:TabAt 0 Lib.deBruijn32tab w)
  (hin: ∀W,CallsIn F (n-1) Tryz.prog 231 #[.int .u32 s] W fun e w'=>e= .returned (.func (.func 250) #[] #[.pointer (some ⟨W.heap.size,0,none⟩)])/\w'=W.alloc (.cells #[.int .u32 s] 67))
  (htz: ∀ (x:Nat),x<4294967296->x≠0-> ∀W',TabAt 0 Lib.deBruijn32tab W'->CallsIn F (n-1-1) Tryz.prog 251 #[.int .u32 x] W' fun e w'=>e= .returned (.int .i64 (Lib.ctz 32 x))/\w'=W'):
  CallsIn F n Tryz.prog 187 #[.int .u32 s] w fun e w'=> ∃v:Value,e= .returned v/\w'.ownsRow w.heap.size 3 1 v (eL (iE s)).length ((eL (iE s)).map KT)/\Below w.heap.size w w':=by
 have h1:1<=n:=by omega
 have eg: ∀args w,(callFunc 250 args).run Tryz.prog w= .ok (.enter 250 args) w:=enters_of Tryz.func250 (by kernel_rfl) rfl
 refine callsIn_of_wp_marks Tryz.func187 rfl h187 ?_ hro
 simp only [Tryz.ntmps187,List.size_toArray,uN,List.length_nil,Nat.reduceAdd,Nat.reduceSub,Array.replicate_succ,Array.replicate_zero,List.push_toArray,List.append_toArray,zg,List.cons_append]
 gi_wp2_with (gi_at_call 231;refine (hin _).mono ?_;rintro e w' ⟨rfl,rfl⟩)
 refine wpIn_rangeFunc ?_
 intro fn hfn
 rw [hro]
 obtain ⟨fv,hfv⟩: ∃fv:Value,fv= .func (.func 250) #[] #[.pointer (some ⟨w.heap.size+1,0,none⟩)]:=⟨_,rfl⟩
 obtain ⟨W0,hW0⟩: ∃W0,(w.alloc (.cells #[.slice none 0 0] 157)).alloc (.cells #[.int .u32 s] 67)=W0:=⟨_,rfl⟩
 have hs0:W0.heap.size=w.heap.size+2:=by rw [<-hW0];simp
 have hv0:W0.heap[w.heap.size]? =some (.cells #[.slice none 0 0] 157 (0,0)):=by rw [<-hW0];exact (Below.heap_alloc _ _ _ (by simp)).trans (World.alloc_heap_new w _)
 have hi0:W0.heap[w.heap.size+1]? =some (.cells #[.int .u32 s] 67 (0,0)):=by
  rw [<-hW0];have:=World.alloc_heap_new (w.alloc (.cells #[.slice none 0 0] 157)) (.cells #[.int .u32 s] 67);rwa [World.size_alloc] at this
 have hb0:Below w.heap.size w W0:=by rw [<-hW0];exact ((Below.refl _ w).alloc (xt _) _).alloc (by simp) _
 rw [hW0]
 obtain ⟨W1,hW1⟩: ∃W1,(W0.alloc (.deferred (some []))).alloc (.loop (Mn fn s fv w.heap.size W0.heap.size .ready none))=W1:=⟨_,rfl⟩
 have hold: ∀k,k<W0.heap.size->W1.heap[k]? =W0.heap[k]? :=fun k hk=>by
  rw [<-hW1];exact (Below.heap_alloc _ _ k (by simp;omega)).trans (Below.heap_alloc _ _ k hk)
 have hb1:Below w.heap.size w W1:=by rw [<-hW1];exact (hb0.alloc hb0.size _).alloc (by have:=hb0.size;simp;omega) _
 have hM:Jn w fn s fv w.heap.size (W0.heap.size+1) W0.heap.size [] W1:=
  ⟨⟨_,(hold w.heap.size (by omega)).trans hv0,⟨rfl,.inl ⟨rfl,rfl⟩⟩⟩,
   by rw [<-hW1];have:=World.alloc_heap_new (W0.alloc (.deferred (some []))) (.loop (Mn fn s fv w.heap.size W0.heap.size .ready none));rwa [World.size_alloc] at this,
   by rw [<-hW1];exact (Below.heap_alloc _ _ _ (by simp)).trans (World.alloc_heap_new W0 _),hb1⟩
 refine ⟨W0.heap.size+1,[{target:= .collected W0.heap.size,args:= #[]}],W1,{target:= .fn (.func 250) #[.pointer (some ⟨w.heap.size+1,0,none⟩)],args:= #[.func (.yield (W0.heap.size+1)) #[] #[]]},W1,250,
  #[.func (.yield (W0.heap.size + 1)) #[] #[]] ++ #[.pointer (some ⟨w.heap.size + 1, 0, none⟩)], W1, ?_, ?_, ?_, ?_, fun _ => h1, ?_⟩
 ·rw [<-hW1,hfv];exact run_enterLoop_outer _ _ _ _ _
 ·simp [resolve,go_sem]
 ·intro f' hf';simp [Target.leads] at hf';subst hf';exact h250
 ·simp [invoke,go_sem,eg]
 ·refine (agA F (n-1) h250 h251 hro (by omega) w fn hfn s fv w.heap.size (w.heap.size+1) (W0.heap.size+1) W0.heap.size (by omega) (by omega) (by omega) (by omega) (by omega) (by omega) (xt _) (by omega) (by omega) hT s W1 hM ((hold _ (by omega)).trans hi0) htz).mono ?_
  rintro e W2 ⟨⟨v0,rfl⟩,h2⟩
  obtain ⟨v,hv,p9⟩:=h2.box
  have hend:=run_endLoop (P:=Tryz.prog) h2.L (by simp [Mn])
  obtain ⟨W3,hW3⟩: ∃W3,W2.putObj (W0.heap.size+1) (.loop {Mn fn s fv w.heap.size W0.heap.size .ready none with state:= .exhausted})=W3:=⟨_,rfl⟩
  rw [hW3] at hend
  have hg3:W2.grownBy W3 (some (W0.heap.size+1)):=by rw [<-hW3];exact rk _ _ _
  have hv3:W3.heap[w.heap.size]? =some (.cells #[v] 157 (0,0)):=by rw [<-hW3];exact (World.putObj_heap_other (by omega)).trans hv
  have hK3:W3.heap[W0.heap.size]? =some (.deferred (some [])):=by rw [<-hW3];exact (World.putObj_heap_other (by omega)).trans h2.K
  have hrow3:=p9.kept hg3 (mr p9 h2.L (fun cur e=>by cases e))
  have hb3:Below w.heap.size w W3:=h2.below.grown hg3 h2.below.size (fun k e=>by cases e;omega)
  obtain ⟨hc3,hf3⟩:=m6 hv3
  clear hW3
  refine ⟨none,W3,hend, ?_⟩
  clear hfv
  gi_wp2
  rw [show (w.heap.size+1+1)=W0.heap.size by omega]
  refine ⟨by simp,.inl ⟨_,_,rfl,run_takeDeferred hK3, ?_⟩⟩
  exact ⟨_,results_tmp rfl _ _ _,v,rfl,hrow3.kept (rk _ _ _) (mr hrow3 hK3 (fun cur e=>by cases e)),hb3.grown (rk _ _ _) hb3.size (fun k e=>by cases e;omega)⟩
end
section
open Go PI Go.Shelf Go.RowKit
def ai (o:Obj):Prop:= ∃ (cur:Array Value) (e:TypeId) (q:Nat×Nat),o= .cells cur e q/\ ∀j,j<Lib.deBruijn32tab.length->cur[j]? =some (.int .u8 (Lib.deBruijn32tab.getD j 0))
theorem akJ {o:Obj} (ho:ai o) {w:World} (h:w.heap[0]? =some o):TabAt 0 Lib.deBruijn32tab w:=fun j hj=>by
 obtain ⟨cur,e,q,rfl,hc⟩:=ho
 have:=hc j hj
 simp [World.cell?,h,this]
theorem agx (s:Int) (w:World) (hT:TabAt 0 Lib.deBruijn32tab w):Calls Tryz.prog 187 #[.int .u32 s] w fun e w'=> ∃v:Value,e= .returned v/\w'.ownsRow w.heap.size 3 1 v (eL (iE s)).length ((eL (iE s)).map KT)/\Below w.heap.size w w':=
 callsIn_wide.1 (agy Fence.wide 5 trivial trivial trivial trivial rfl (by omega) s w hT (fun W=>callsIn_wide.2 (adi s W)) fun x z A W' q=>callsIn_wide.2 (Tryz.tz32 x z A W' q))
theorem agE (s:Int):ra s=(eL (iE s)).map fun n:Nat=>(n:Int):=by
 unfold ra eL iE
 have:(BF 24).filter ((BitVec.ofInt 32 s).toNat&&&16777215).testBit=(BF 24).filter fun i=>(BitVec.ofInt 32 s).getLsbD i:=List.filter_congr fun i q=>by
  have q:i<24:=List.mem_range.1 q
  have x:(16777215:Nat)=2^24-1:=by decide
  rw [Nat.testBit_and,x,Nat.testBit_two_pow_sub_one,decide_eq_true q,Bool.and_true];rfl
 rw [this];rfl
theorem ZJ {X:qB VV Tryz.prog} {w w':World} {vs:Array Value} {N0:aN} {ν:Nat->Nat} {δ:Nat->Option Nat} {ο:Nat->Array Value} {args:List PU} (x:uL X w vs N0 ν δ ο args []) (hb:Below w.heap.size w w'):
  L3 X w w' N0 ν δ ο 0 args.length ν (fun _=>none) [] where
 ext:=⟨hb.os,hb.tape,hb.output,hb.size,fun b q _=>hb.block b q⟩
 le:=xt _
 old:=fun i h=>absurd h (Nat.not_lt_zero i)
 new:=fun i _ h=>absurd h (Nat.not_lt_zero i)
 cY:=fun j b h=>by cases h
 iP:={
  inj:=fun i j h=>absurd h (Nat.not_lt_zero i)
  lt:=fun i h=>absurd h (Nat.not_lt_zero i)
  dlt:=fun j b h=>by cases h
  eO:=fun i j b h=>by cases h
  dν:=fun j b h=>by cases h
  n0:=fun b o h=>⟨Nat.lt_of_lt_of_le (x.iP.n0 b o h).1 hb.size,fun i h=>absurd h (Nat.not_lt_zero i),fun j h=>by cases h⟩}
 boxes:=fun k b h=>by simp at h
theorem akR {S:Type} (o:Obj) (ho:ai o) (vs:List PU) (bs:List (pA UU)) (κ:Out UU->Option S) (x:S) (h:GZ vs bs κ=some x): ∃out,ci (LL o) acN vs bs out/\κ out=some x:=by
 unfold GZ at h
 split at h
 case h_2=>cases h
 rename_i κ y
 refine ⟨_, ?_,h⟩
 refine ⟨⟨Tryz.f187,Tryz.func187,by kernel_rfl,rfl⟩,fun w vs N0 ν δ ο B=> ?_⟩
 have hs:vs.size=1:=B.size
 have F:=B.args 0 _ rfl
 obtain ⟨v0,J⟩: ∃v0,vs= #[v0]:=by
  obtain ⟨l⟩:=vs
  match l,hs with
  |[v],_=>exact ⟨v,rfl⟩
 subst J
 have F:pw (LL o) w _ _ v0 (.int .u32 y):=F
 cases F
 have hT:=akJ ho (B.gF 0 o (by simp [LL])).1
 refine (agx y w hT).mono ?_
 rintro e w' ⟨v,rfl,p9,hb⟩
 refine ⟨ν,fun _=>none,ZJ B hb, ?_⟩
 show pw (LL o) w' _ _ v (.sl ET.I (ra y) .none)
 rw [agE]
 generalize eL (iE y)=A at p9
 obtain ⟨hl,T⟩:=p9
 rcases T with ⟨rfl,hn⟩|⟨g,cap,cur,rfl,W,L,hc,Y,ad,M⟩
 ·have:A=[]:=Iu.1 hn
  subst this
  exact .sl none 0 0 _ _ _ (fun _ _=>undef) rfl (xt _) trivial (fun j x q=>by cases q) (fun j x q=>by cases q)
 ·have z: ∀j x,(A.map fun n:Nat=>(n:Int))[j]? =some x->cur.getD j undef= .int .i64 x/\w'.cell? ⟨g,j,none⟩=some (.int .i64 x):=by
   intro j x q
   rw [List.getElem?_map] at q
   cases E:A[j]? with
   |none=>rw [E] at q;cases q
   |some n=>
    rw [E] at q
    injection q with q
    have hj:j<A.length:=(De.1 E).1
    have h1:(cur.toList.take (A.length*1))[j]? =some (KT n):=by rw [M,List.getElem?_map,E];rfl
    rw [List.getElem?_take_of_lt (by omega)] at h1
    have h2:cur[j]? =some (.int .i64 x):=by rw [<-Array.getElem?_toList,h1,<-q];rfl
    refine ⟨?_,by simp [World.cell?,L,h2]⟩
    rw [HZ,h2];rfl
  refine pw.sl (X:=LL o) (some ⟨g,0,none⟩) A.length cap ET.I (show List Int from A.map fun n:Nat=>(n:Int)) .none (fun j k=>cur.getD (j+k) undef) (List.length_map _) hc trivial (fun j x q k p hp=> ?_) (fun j x q k p hp=> ?_)
  ·match k,hp with
   |0,hp=>
    obtain ⟨h1,h2⟩:=z j x q
    refine ⟨_,rfl, ?_, ?_⟩
    ·have:(⟨g,0,none⟩:Addr).add (j*(LL o).aR ET.I+0)=⟨g,j,none⟩:=by
      rw [Addr.add_lit'];show (⟨g,0+(j*1+0),none⟩:Addr)=_;congr 1;omega
     rw [this,h2];rw [Nat.add_zero,h1]
    ·rintro (hN|⟨i,O,_⟩|⟨i,O⟩)
     ·have:=(B.iP.n0 _ _ hN).1
      simp at this;omega
     ·exact absurd O (Nat.not_lt_zero i)
     ·cases O
   |k+1,hp=>simp [VV,Dg] at hp
  ·match k,hp with
   |0,hp=>
    obtain ⟨h1,h2⟩:=z j x q
    rw [Nat.add_zero,h1]
    have:p= .int .i64 x:=by simpa [VV,Dg] using hp.symm
    subst this
    exact .int _ _
   |k+1,hp=>simp [VV,Dg] at hp
open Go.Sort
def m7 (a b:Int):Int:=if a<b then-1 else if b<a then 1 else 0
def iY (x y:Cl):Int:=if x.pos=y.pos then m7 x.neg y.neg else m7 x.pos y.pos
def Iq (x:Cl):List Value:=[.int .u32 x.pos,.int .u32 x.neg]
theorem EP (a:Int) (W:World):Calls Tryz.prog 262 #[.int .u32 a] W fun e w'=>e= .returned (.bool false)/\w'=W:=by
 go_enter Tryz.func262,Tryz.ntmps262
 go_wp2
 go_ret
 exact ⟨by simp,rfl⟩
set_option maxHeartbeats 1000000 in
theorem JD (a b:Int) (W:World):Calls Tryz.prog 237 #[.int .u32 a,.int .u32 b] W fun e w'=>e= .returned (.int .i64 (m7 a b))/\w'=W:=by
 unfold m7
 by_cases h1:a<b
 ·rw [if_pos h1]
  go_enter Tryz.func237,Tryz.ntmps237
  go_wp2_with (go_at_call 262;refine (EP _ _).mono ?_;rintro e w' ⟨rfl,rfl⟩)
  go_ret
  exact ⟨rfl,rfl⟩
 ·rw [if_neg h1]
  by_cases h2:b<a
  ·rw [if_pos h2]
   go_enter Tryz.func237,Tryz.ntmps237
   go_wp2_with (go_at_call 262;refine (EP _ _).mono ?_;rintro e w' ⟨rfl,rfl⟩)
   go_ret
   exact ⟨rfl,rfl⟩
  ·rw [if_neg h2]
   go_enter Tryz.func237,Tryz.ntmps237
   go_wp2_with (go_at_call 262;refine (EP _ _).mono ?_;rintro e w' ⟨rfl,rfl⟩)
   go_ret
   exact ⟨rfl,rfl⟩
set_option maxHeartbeats 1000000 in
theorem Z6 (x y:Cl) (W:World):Calls Tryz.prog 212 #[.agg (Iq x).toArray,.agg (Iq y).toArray] W fun e w'=>e= .returned (.int .i64 (iY x y))/\ ∃q z,w'=grow (W.drewN q) z:=by
 obtain ⟨a,b⟩:=x
 obtain ⟨a',A⟩:=y
 have h1:=JD a a'
 have h2:=JD b A
 unfold iY
 simp only [Iq]
 generalize m7 a a'=r1 at h1 ⊢
 generalize m7 b A=B at h2 ⊢
 by_cases h:a=a'
 ·rw [if_pos h]
  go_enter Tryz.func212,Tryz.ntmps212
  go_wp2_with (go_at_call 237;refine (h2 _).mono ?_;rintro e w' ⟨rfl,rfl⟩)
  go_ret
  exact ⟨rfl,0,_,by rw [alloc_eq_grow,alloc_eq_grow,grow_grow];rfl⟩
 ·rw [if_neg h]
  go_enter Tryz.func212,Tryz.ntmps212
  go_wp2_with (go_at_call 237;refine (h1 _).mono ?_;rintro e w' ⟨rfl,rfl⟩)
  go_ret
  exact ⟨rfl,0,_,by rw [alloc_eq_grow,alloc_eq_grow,grow_grow];rfl⟩
theorem uS (x y:Cl):ltOf iY x y=(decide (x.pos<y.pos)||(decide (x.pos=y.pos)&&decide (x.neg<y.neg))):=by
 have h:iY x y<0↔(x.pos<y.pos\/x.pos=y.pos/\x.neg<y.neg):=by
  unfold iY m7
  split<;>split<;>first|omega|(split<;>omega)
 rw [Bool.eq_iff_iff]
 simp only [ltOf,decide_eq_true_eq,Bool.or_eq_true,qk]
 exact h
theorem akz:SWO (ltOf iY) where
 irrefl x:=by rw [uS];simp
 trans x y z h1 h2:=by rw [uS] at*;simp at*;omega
 ntrans x y z h1 h2:=by rw [uS] at*;simp at*;omega
theorem akV (x y:Cl) (h1:ltOf iY x y=false) (h2:ltOf iY y x=false):x=y:=by
 rw [uS] at*;simp at*
 obtain ⟨a,b⟩:=x
 obtain ⟨a',q⟩:=y
 simp at*
 omega
theorem ada:(fun x y:Cl=> !ltOf iY y x)=lq:=by
 funext x y
 rw [uS,Bool.eq_iff_iff]
 simp [lq]
 omega
instance:Inhabited Cl:=⟨⟨0,0⟩⟩
theorem akg (b c:Nat) (d:List Cl) (w:World) (hH:HoldsK Iq 2 w b 0 d.toArray) (hb:b<w.heap.size) (q:d.length<4611686018427387904):
  Calls Tryz.prog 211 #[.slice (some ⟨b,0,none⟩) d.length c,.func (.func 212) #[] #[]] w fun e w'=>e= .returned (.tuple #[])/\ ∃n os,w'=sortWorldK Iq 2 w b 0 n (sortCl d).toArray os:=by
 have z: ∀args w,(callFunc 212 args).run Tryz.prog w= .ok (.enter 212 args) w:=enters_of Tryz.func212 (by kernel_rfl) rfl
 have h:=AnyQ.slices_SortFunc_total Tryz.sortCl 2 Tryz.isAgg69 Tryz.sizeOf69 Iq (fun _=>rfl) (fun x v hv=>by simp [Iq] at hv;rcases hv with rfl|rfl<;>rfl) iY akz 212 #[] b 0 c d.toArray w z (fun _ _ _ _ x y=>Z6 x y _) hH hb q akV
 rw [ada] at h
 exact h
theorem akh (p:Option Addr) (c:Nat) (w:World):Calls Tryz.prog 211 #[.slice p 0 c,.func (.func 212) #[] #[]] w fun e w'=>e= .returned (.tuple #[])/\w'=w:=
 AnyF.slices_SortFunc_none Tryz.sortCl p c _ w
theorem akf {m:Nat} {d:Array Cl} {os:Array Obj} {w:World} {b k:Nat} (hk:k<w.heap.size) (q:k≠b):(sortWorldK Iq 2 w b 0 m d os).heap[k]? =w.heap[k]? :=by
 unfold sortWorldK putRowK putRow mapBlock
 rw [heap_grow_old _ _ (by simpa [ahead] using hk)]
 show (w.heap.modify b _)[k]? =_
 rw [Array.getElem?_modify,if_neg (Ne.symm q)]
theorem ake {m:Nat} {d:Array Cl} {os:Array Obj} {w:World} {b:Nat} {cur:Array Value} {e:TypeId} {q:Nat×Nat} (h:w.heap[b]? =some (.cells cur e q)):
  (sortWorldK Iq 2 w b 0 m d os).heap[b]? =some (.cells (putCells id 0 (flatK Iq 2 d) cur) e q):=by
 have hb:b<w.heap.size:=(Hk.1 h).1
 unfold sortWorldK putRowK putRow mapBlock
 rw [heap_grow_old _ _ (by simpa [ahead] using hb)]
 show (w.heap.modify b _)[b]? =_
 rw [Array.getElem?_modify,if_pos rfl,h];rfl
theorem Z4 (x:Cl) {k:Nat} {p:PU} (hp:(Dg .C x)[k]? =some p):k<2/\ ∀ (X:qB VV Tryz.prog) (w:World) (N:aN) (g:Gh UU),pw X w N g (Iq x)[k]! p:=by
 match k,hp with
 |0,hp=>cases hp;exact ⟨by omega,fun X w N g=> .int _ _⟩
 |1,hp=>cases hp;exact ⟨by omega,fun X w N g=> .int _ _⟩
 |k+2,hp=>simp [Dg] at hp
theorem adf {w:World} {b c:Nat} {l:List Cl} {cur:Array Value} {e:TypeId} (hb:w.heap[b]? =some (.cells cur e (0,0))) (hs:cur.size=c*2) (hl:l.length<=c) (h: ∀ (j:Nat) (x:Cl),l[j]? =some x-> ∀k,k<2->w.cell? ⟨b,j*2+k,none⟩=some (Iq x)[k]!):HoldsK Iq 2 w b 0 l.toArray:=by
 intro t q
 rw [size_flatK] at q
 have z:t<l.length*2:=by simpa using q
 have hj:t/2<l.length:=by omega
 have A:l[t/2]? =some l.toArray[t/2]! :=by simp [hj]
 refine ⟨?_, ?_⟩
 ·rw [get_flatK _ _ _ _ q]
  have:=h _ _ A (t%2) (Nat.mod_lt _ (by omega))
  rw [EJ]
  rw [show t/2*2+t%2=t by omega] at this
  exact this
 ·simp [World.frozen?,hb]
theorem adl {f:Nat} {ps:List PU} {l l':List Cl} (h:EK f ps l=some l'):f=211/\ps=[.func 212 [] []]/\l'=sortCl l:=by
 unfold EK at h
 split at h
 ·injection h with h
  exact ⟨rfl,rfl,h.symm⟩
 ·cases h
theorem Ad (o:Obj):RT (LL o):=by
 intro f ps e l l' h
 have E:K9 f ps e l=some l':=h
 clear h
 cases e with
 |T=>cases E
 |B=>cases E
 |I=>cases E
 |F=>cases E
 |D=>cases E
 |G=>cases E
 |V=>cases E
 |C=>
 obtain ⟨rfl,rfl,rfl⟩:=adl E
 refine ⟨⟨Tryz.f211,Tryz.func211,by kernel_rfl,rfl⟩,fun w vs N0 δ ο hg bf=> ?_⟩
 have hs:vs.size=2:=hg.size
 obtain ⟨v0,v1,rfl⟩: ∃v0 v1,vs= #[v0,v1]:=by
  obtain ⟨l⟩:=vs
  match l,hs with
  |[v,v'],_=>exact ⟨v,v',rfl⟩
 have h0:s9 (LL o) w (NB N0 0 (fun _=>0) δ) (gB UU 0 fun _=>0) ET.C l v0 .wr (δ 0):=hg.args 0 _ rfl
 have h1:pw (LL o) w (NB N0 0 (fun _=>0) δ) (gB UU 0 fun _=>0) v1 (.func 212 [] []):=hg.args 1 _ rfl
 cases h1 with
 |func _ _ _ xs ys ha hb _ _=>
 have ad:xs= #[]:=by simpa using ha
 have ao:ys= #[]:=by simpa using hb
 subst ad;subst ao
 obtain ⟨A,n,c,rfl,hl,hc,q,W⟩:=h0.val
 have hl: @EO Cl l=n:=hl
 cases Y:δ 0 with
 |none=>
  rw [Y] at W q
  obtain ⟨rfl,rfl,rfl⟩:=W.1 rfl
  have:l=([]:List Cl):=Iu.1 hl
  subst this
  refine (akh none 0 w).mono ?_
  rintro e w' ⟨rfl,rfl⟩
  refine ⟨rfl,.refl _ _, ?_⟩
  rw [Y] at h0
  have:sortCl []=[]:=by simp [sortCl]
  rw [this]
  exact h0
 |some b=>
  rw [Y] at W q
  obtain ⟨hu,cur,rfl,hblk,ax,J⟩:=W
  have L:b<w.heap.size:=(Hk.1 hblk).1
  have M:cur.size=c*2:=ax
  have hH:HoldsK Iq 2 w b 0 l.toArray:=adf hblk M (hl▸hc) fun j x hx k hk=>by
   have hp: ∃p,(Dg ET.C x)[k]? =some p/\p= .int .u32 (if k=0 then x.pos else x.neg):=by
    match k,hk with
    |0,_=>exact ⟨_,rfl,rfl⟩
    |1,_=>exact ⟨_,rfl,rfl⟩
   obtain ⟨p,hp,az⟩:=hp
   obtain ⟨a,v,ha,hv,hr,_⟩:=q j x hx k p hp
   injection ha with ha
   subst ha
   subst az
   have a6:w.cell? ⟨b,j*2+k,none⟩=some v:=by
    have:(⟨b,0,none⟩:Addr).add (j*(LL o).aR ET.C+k)=⟨b,j*2+k,none⟩:=by
     rw [Addr.add_lit'];show (⟨b,0+(j*2+k),none⟩:Addr)=_;congr 1;omega
    rw [this] at hv;exact hv
   rw [a6]
   cases hr
   match k,hk with
   |0,_=>rfl
   |1,_=>rfl
  have a7: @EO Cl l<4611686018427387904:=by
   have:n<=1099511627776:=J.2
   omega
  have z:=akg b c l w hH L a7
  have he:(.slice (some ⟨b,0,none⟩) (@EO Cl l) c:Value)= .slice (some ⟨b,0,none⟩) n c:=by rw [hl]
  rw [he] at z
  refine z.mono ?_
  rintro e w' ⟨rfl,m,os,rfl⟩
  have hlen:(sortCl l).length= @EO Cl l:=List.length_mergeSort _
  have a8:=holdsK_sortWorldK_c Iq 2 w b 0 l.toArray (sortCl l).toArray m os hH L hlen
  refine ⟨rfl,⟨rfl,rfl,rfl,size_sortWorldK_c Iq 2 w b 0 m _ os,fun k hk bc=>akf hk fun e=>bc ?_⟩, ?_⟩
  ·subst e
   exact List.mem_append_right _ (List.mem_filterMap.2 ⟨0,by simp,Y⟩)
  ·refine ⟨_,n,c,rfl,hlen.trans hl,hc,fun j x hx k p hp=> ?_, ?_⟩
   ·obtain ⟨hk,O⟩:=Z4 x hp
    have hj:j<(sortCl l).length:=(De.1 hx).1
    have:=(a8.cell (i:=j) (c:=k) (by simpa using hj) hk).1
    have he:(sortCl l).toArray[j]! =x:=by
     have:=De.1 hx
     rw [getElem!_pos _ j (by simpa using hj)];exact this.2
    rw [he] at this
    refine ⟨_,_,rfl, ?_,O _ _ _ _,fun h=>by cases h⟩
    have e:(⟨b,0,none⟩:Addr).add (j*(LL o).aR ET.C+k)=⟨b,0+j*2+k,none⟩:=by
     rw [Addr.add_lit'];show (⟨b,0+(j*2+k),none⟩:Addr)=_;congr 1;omega
    show World.cell? _ (Addr.add _ _)=_
    rw [e];exact this
   ·exact ⟨hu,_,rfl,ake hblk,by simp [putCells];exact M,J⟩
end
section
open Go PI Go.ChangeShapes Go.WideShapes Go.ChangeAt Go.RowKit
theorem own:ownKnob Tryz.prog.godebug=none:=by kernel_rfl
theorem KM:Tryz.prog.globalNamed "math/bits.deBruijn32tab" =some 0:=by kernel_rfl
section
variable {H:Type} {enc:TypeId×Value->H}
structure Kept (W W':World):Prop where
 os:W'.os=W.os
 output:W'.output=W.output
 size:W.heap.size<=W'.heap.size
 block: ∀b,b<W.heap.size->W'.heap[b]? =W.heap[b]?
theorem Kept.sameAt {W W':World} (h:Kept W W') {p:MemPlace} (hp:p.block<W.heap.size):W.sameAt W' p:=by
 cases p with
 |cell b o=>simp only [World.sameAt,World.cell?];rw [h.block b hp]
 |map b=>exact h.block b hp
theorem Kept.kept {W W':World} (h:Kept W W') (may:MemPlace->Prop):W.keptBut W' may:=by
 refine ⟨h.os,h.output,fun i q=> ?_⟩
 rw [h.block i q]
 cases W.heap[i]? with
 |none=>rfl
 |some o=>cases o with
  |cells c t x=>exact ⟨rfl,rfl,rfl,fun _ _=>rfl⟩
  |map es clock=>exact .inr ⟨rfl,rfl⟩
  |_=>rfl
theorem Jk {W W':World} {sp:Nat->Bool} {held:Bool}: ∀ {A:List TypeId} {vs:List Value} {ds:List (DataW H)} {ps:List MemPlace},
  DataW.TrodAll enc Tryz.prog W 0 sp held A vs ds ps->(∀p∈ps,W.sameAt W' p)->DataW.TrodAll enc Tryz.prog W' 0 sp held A vs ds ps
 |[],[],[],_,h,_=>h
 |_::_,_::_,_::_,_,⟨p,q,⟨n,h1⟩,h2,e⟩,hs=>
  ⟨p,q,⟨n,DataW.trod_carry n _ _ _ h1 fun x z=>hs x (by rw [e];exact List.mem_append_left _ z)⟩,Jk h2 (fun x z=>hs x (by rw [e];exact List.mem_append_right _ z)),e⟩
theorem kids:Kids Tryz.prog (· <Tryz.prog.types.size):=kids_rows (by kernel_rfl) (by kernel_rfl)
theorem full: ∀t e,t<Tryz.prog.types.size->Tryz.prog.underlying t=some (.slice e)->0<Tryz.prog.cellsOf e:=slices_full_of Tryz.prog (by kernel_rfl)
theorem ahF {f:Func} {s:ChangeSpec} (hv:s.vars=[]) {dD fresh handsOn again:Bool} {W W':World} {args:Array Value} {ds gs:List (DataW H)} {before:List MemPlace} (hf:f.resultTypes= #[4])
  (hT: ∀t∈f.params.toList,t<Tryz.prog.types.size) (hs:s.fn H ds={results:=[.lit (.bool true)],args:=ds})
  (L:DataW.Whole enc Tryz.prog f.params.toList s.vars dD W args.toList ds gs before) (hk:Kept W W'):s.post enc Tryz.prog f dD fresh handsOn again W args (.bool true) W':=by
 have hold: ∀p∈before,(fun b=>decide (b<W.heap.size)) p.block=true:=fun p hp=>by simpa using L.lt p hp
 have E: ∀p∈before,p.block<W.heap.size:=fun p hp=>by simpa using L.lt p hp
 have I:=L
 obtain ⟨p,q,hA,hV,rfl,T,hn⟩:=L
 rw [hv] at hV
 obtain ⟨rfl,rfl⟩:=trodVars_none hV
 rw [xS] at hold E T hn I
 have F:s.fn H (ds++[])={results:=[.lit (.bool true)],args:=ds}:=by rw [xS];exact hs
 have Y:(Value.bool true).resultList f.resultTypes.size=[.bool true]:=by rw [hf];rfl
 have B: ∀ (b:Nat) (sp:Nat->Bool) (hd:Bool),DataW.TrodAll enc Tryz.prog W' b sp hd f.resultTypes.toList ((Value.bool true).resultList f.resultTypes.size) (s.fn H (ds++[])).results []:=fun b sp hd=>by
  rw [Y,F,hf]
  exact trodAll_cons_mk (shut_bool Tryz.underlying4 _) trodAll_mk0
 have z: ∀sp:Nat->Bool,(∀M∈p,sp M.block=true)->DataW.TrodAll enc Tryz.prog W' 0 sp true f.params.toList args.toList (s.fn H (ds++[])).args p:=fun sp O=>by
  rw [F]
  exact DataW.TrodAll.respare kids full hT (Jk hA fun x hx=>hk.sameAt (E x hx)) O
 have A: ∀sp:Nat->Bool,DataW.TrodVars enc Tryz.prog W' sp s.vars (s.fn H (ds++[])).vars []:=fun sp=>by rw [hv,F];rfl
 refine ⟨ds,[],p,[],p,[],I,B _ _ _,z _ hold,A _,World.keptBut_mono (fun M hp=>hp.elim) (hk.kept fun _=>False),fun _=> ?_⟩
 refine ⟨fun j t r h1 h2=> ?_,_,_,([]++p)++[],⟨[]++p,[],trodAll_append (z _ (fun _ _=>rfl)) (B _ _ _),A _,rfl, ?_, ?_⟩, ?_⟩
 ·rw [hf] at h1
  rw [Y] at h2
  match j,h1,h2 with
  |0,h1,h2=>cases h1;cases h2;exact okWide_bool_mk Tryz.underlying4 _
  |j+1,h1,h2=>simp at h2
 ·intro b off hp
  have J:MemPlace.cell b off∈p:=by simpa using hp
  have:=T b off J
  simp only [World.frozen?] at this ⊢
  rw [hk.block b (E _ J)]
  exact this
 ·intro ha
  have:=hn ha
  simpa using this
 ·intro M hp _
  simpa using hp
variable {w:World} {spare:Nat->Bool} {held:Bool} {o:Obj} {N:aN} {g:Gh UU}
theorem Zs {v:Value} {n:Nat} (h:v.cells.toList.length=n+2): ∃vs:Array Value,v= .agg vs/\vs.toList=v.cells.toList:=by
 cases v with
 |agg vs=>exact ⟨vs,rfl,rfl⟩
 |_=>simp [Value.cells] at h
theorem ZG (E: ∀b o,¬N b o) {v:Value} {d:DataW H} {ps:List MemPlace} (h:DataW.Trod enc Tryz.prog w 0 spare held 27 v d ps): ∃t:Tm,pw (LL o) w N g v (.agg (Dg ET.T t))/\QT t d:=by
 obtain ⟨n,hn⟩:=h
 obtain ⟨t,F,I⟩:=(ahu (o:=o) (g:=g) E n).1 _ _ _ hn
 obtain ⟨_,_,_,_,hl,_,_⟩:=DataW.trod_struct Tryz.underlying27 hn
 have q:v.cells.toList.length=6:=hl.trans (by kernel_rfl)
 obtain ⟨vs,rfl,x⟩:=Zs (n:=4) q
 refine ⟨t,pw.agg (X:=LL o) vs (Dg ET.T t) (by rw [<-Array.length_toList,x,q];rfl) fun j p hp=> ?_,I⟩
 obtain ⟨B,z,A⟩:=F j p hp
 have:vs.getD j undef=B:=by
  have h2:vs[j]? =some B:=by rw [<-Array.getElem?_toList,x];exact z
  rw [HZ,h2];rfl
 rw [this];exact A
theorem adb {o:Obj} {W:World} (x:W.heap[0]? =some o) {vs:Array Value} {ps:List PU} (hs:vs.size=ps.length) (hp:ps.all PV.notFresh=true)
  (h: ∀ (j:Nat) p,ps[j]? =some p->pw (LL o) W (NB (fun _ _=>False) 0 (fun _=>0) fun _=>none) (gB UU 0 fun _=>0) (vs.getD j undef) p):uL (LL o) W vs (fun _ _=>False) (fun _=>0) (fun _=>none) (fun _=> #[]) ps [] where
 iP:=⟨fun i j q=>absurd q (Nat.not_lt_zero i),fun i q=>absurd q (Nat.not_lt_zero i),fun j b h=>(by cases h),fun i j b h=>(by cases h),fun j b h=>(by cases h),fun b o h=>h.elim⟩
 size:=hs
 hX:=fun j b h=>by cases h
 gF:=fun b z hb=>by
  simp [LL] at hb
  obtain ⟨rfl,rfl⟩:=hb
  exact ⟨x,fun i q=>absurd q (Nat.not_lt_zero i),fun j h=>by cases h⟩
 args:=fun j p hj=>ue.of (h j p hj)
 boxes:=fun k b h=>by simp at h
 oz:=fun _ _=>rfl
theorem uv: ∀b o,¬NB (fun _ _=>False) 0 (fun _=>0) (fun _=>none) b o:=by
 rintro b o (h|⟨k,hk,_⟩|⟨j,h⟩)
 ·exact h
 ·exact absurd hk (Nat.not_lt_zero k)
 ·cases h
theorem ZW {o:Obj} {f:FuncId} {ps:List PU} (q:ci (LL o) f ps [] (.ret (.bool true) [])) {W:World} {vs:Array Value} (A:uL (LL o) W vs (fun _ _=>False) (fun _=>0) (fun _=>none) (fun _=> #[]) ps []):
  Calls Tryz.prog f vs W fun e W'=>e= .returned (.bool true)/\Kept W W':=by
 refine (q.2 W vs _ _ _ _ A).mono ?_
 rintro e W' he
 cases e with
 |returned B=>
  obtain ⟨ν',δ',hb,x⟩:=he
  have x:pw (LL o) W' _ _ B (.bool true):=x
  cases x
  refine ⟨rfl,hb.ext.os,hb.ext.output,hb.ext.size,fun b z=>hb.ext.block b z fun E=> ?_⟩
  simp [Sj] at E
 |panicked F=>exact he.elim
 |outgrown=>exact he.elim
theorem akK {H:Type}:(Rows.laid_math_bits_deBruijn32tab:DataW H)=Lib.tabData .u8 (Lib.deBruijn32tab.map fun n:Nat=>(n:Int)):=rfl
theorem akL {W:World} (h:laidMetH Tryz.prog [("math/bits.deBruijn32tab",Rows.laid_math_bits_deBruijn32tab)] W): ∃o,ai o/\W.heap[0]? =some o:=by
 have h':laidMet Tryz.prog [("math/bits.deBruijn32tab",Rows.laid_math_bits_deBruijn32tab)] W:=h
 rw [akK] at h'
 have z:Lib.TabIs Tryz.prog W "math/bits.deBruijn32tab" .u8 (Lib.deBruijn32tab.map fun n:Nat=>(n:Int)):=
  Lib.tabIs_of_head (rest:=[]) KM (by kernel_rfl) Tryz.underlying234 Tryz.underlying5 (by kernel_rfl) (by kernel_rfl) h'
 have hc: ∀j,j<Lib.deBruijn32tab.length->W.cell? ⟨0,j,none⟩=some (.int .u8 (Lib.deBruijn32tab.getD j 0:Nat)):=fun j hj=>by
  rw [z.cell KM j (by simpa using hj)]
  simp [List.getD,hj]
 have x:=hc 0 (by decide)
 cases q:W.heap[0]? with
 |none=>simp [World.cell?,q] at x
 |some o=>
  cases o with
  |cells cur e A=>
   refine ⟨_,⟨cur,e,A,rfl,fun j hj=> ?_⟩,rfl⟩
   have:=hc j hj
   simpa [World.cell?,q] using this
  |_=>simp [World.cell?,q] at x
end
end
section
noncomputable section
abbrev Rw (S:Type):=List PU->List (pA UU)->(Out UU->Option S)->Option S
abbrev Kn (S:Type):=(Out UU->Option S)->Option S
noncomputable def iI (n:Int):PU:= .int .i64 n
noncomputable def iU (n:Int):PU:= .int .u32 n
noncomputable def pt (i:Nat):PU:= .ptr i 0
noncomputable def aT (t:Tm):PU:= .agg [.int .i64 t.k,.int .i64 t.n,.str t.name,bZ t.r .none,dO t.c .none,dN t.s .none]
noncomputable def aC (c:Cl):PU:= .agg [.int .u32 c.pos,.int .u32 c.neg]
noncomputable def aB (b:Br Tm):PU:= .agg [bZ b.f .none,dO b.c .none]
noncomputable def bT (t:Tm):pA UU:= .cells [.int .i64 t.k,.int .i64 t.n,.str t.name,bZ t.r .none,dO t.c .none,dN t.s .none]
noncomputable def bC (c:Cl):pA UU:= .cells [.int .u32 c.pos,.int .u32 c.neg]
noncomputable def bB (b:Br Tm):pA UU:= .cells [bZ b.f .none,dO b.c .none]
noncomputable def bI (n:Int):pA UU:= .cells [.int .i64 n]
noncomputable def bb (b:Bool):pA UU:= .cells [.bool b]
noncomputable def sC (l:List Cl):PU:=bZ l .none
noncomputable def sT (l:List Tm):PU:=dO l .none
noncomputable def sB (l:List (Br Tm)):PU:=dN l .none
structure Cd where
 D:Type->Type
 k:{ρ:Type}->ρ->D ρ
 dec:{ρ:Type}->D ρ->PU->Option ρ
 A:{ρ:Type}->D ρ->(PU->ρ->Prop)->Prop
 law: ∀ {ρ:Type} (f:D ρ) (v:PU) (r:ρ) (Q:PU->ρ->Prop),A f Q->dec f v=some r->Q v r
structure Cs where
 D:Type->Type
 n:Nat
 k:{ρ:Type}->ρ->D ρ
 dec:{ρ:Type}->D ρ->List PU->Option ρ
 A:{ρ:Type}->D ρ->(List PU->ρ->Prop)->Prop
 law: ∀ {ρ:Type} (f:D ρ) (v:List PU) (r:ρ) (Q:List PU->ρ->Prop),A f Q->dec f v=some r->Q v r
 len: ∀ {ρ:Type} (f:D ρ) (v:List PU) (r:ρ),dec f v=some r->v.length=n
structure Bs where
 D:Type->Type
 n:Nat
 k:{ρ:Type}->ρ->D ρ
 dec:{ρ:Type}->D ρ->List (pA UU)->Option ρ
 A:{ρ:Type}->D ρ->(List (pA UU)->ρ->Prop)->Prop
 law: ∀ {ρ:Type} (f:D ρ) (v:List (pA UU)) (r:ρ) (Q:List (pA UU)->ρ->Prop),A f Q->dec f v=some r->Q v r
 len: ∀ {ρ:Type} (f:D ρ) (v:List (pA UU)) (r:ρ),dec f v=some r->v.length=n
noncomputable def cn:Cs where
 D ρ:=ρ
 n:=0
 k r:=r
 dec f:=fun|[]=>some f|_=> .none
 A f Q:=Q [] f
 law f v r Q h e:=by split at e<;>cases e;exact h
 len f v r e:=by split at e<;>cases e;rfl
noncomputable def cc (c:Cd) (s:Cs):Cs where
 D ρ:=c.D (s.D ρ)
 n:=s.n+1
 k r:=c.k (s.k r)
 dec f:=fun|v::l=>(c.dec f v).bind fun g=>s.dec g l|[]=> .none
 A f Q:=c.A f fun v g=>s.A g fun l r=>Q (v::l) r
 law f v r Q h e:=by
  split at e
  ·obtain ⟨g,h1,h2⟩:=Option.bind_eq_some_iff.1 e
   have:=s.law g _ r _ (c.law f _ g _ h h1) h2;exact this
  ·cases e
 len f v r e:=by
  split at e
  ·obtain ⟨g,h1,h2⟩:=Option.bind_eq_some_iff.1 e
   simp [s.len g _ r h2]
  ·cases e
noncomputable def xn:Bs where
 D ρ:=ρ
 n:=0
 k r:=r
 dec f:=fun|[]=>some f|_=> .none
 A f Q:=Q [] f
 law f v r Q h e:=by split at e<;>cases e;exact h
 len f v r e:=by split at e<;>cases e;rfl
noncomputable def xc (c:Cs) (s:Bs):Bs where
 D ρ:=c.D (s.D ρ)
 n:=s.n+1
 k r:=c.k (s.k r)
 dec f:=fun| .cells v::l=>(c.dec f v).bind fun g=>s.dec g l|_=> .none
 A f Q:=c.A f fun v g=>s.A g fun l r=>Q (.cells v::l) r
 law f v r Q h e:=by
  split at e
  ·obtain ⟨g,h1,h2⟩:=Option.bind_eq_some_iff.1 e
   have:=s.law g _ r _ (c.law f _ g _ h h1) h2;exact this
  ·cases e
 len f v r e:=by
  split at e
  ·obtain ⟨g,h1,h2⟩:=Option.bind_eq_some_iff.1 e
   simp [s.len g _ r h2]
  ·cases e
noncomputable def cI:Cd where
 D ρ:=Int->ρ
 k r:=fun _=>r
 dec f:=fun| .int .i64 n=>some (f n)|_=> .none
 A f Q:= ∀n:Int,Q (iI n) (f n)
 law f v r Q h e:=by split at e<;>cases e;exact h _
noncomputable def cU:Cd where
 D ρ:=Int->ρ
 k r:=fun _=>r
 dec f:=fun| .int .u32 n=>some (f n)|_=> .none
 A f Q:= ∀n:Int,Q (iU n) (f n)
 law f v r Q h e:=by split at e<;>cases e;exact h _
noncomputable def cN (kd:IntKind):Cd where
 D ρ:=Int->ρ
 k r:=fun _=>r
 dec f:=fun| .int q n=>(match decEq q kd with| .isTrue _=>some (f n)| .isFalse _=> .none)|_=> .none
 A f Q:= ∀n:Int,Q (.int kd n) (f n)
 law f v r Q h e:=by
  split at e
  ·split at e
   ·rename_i x _;subst x;cases e;exact h _
   ·cases e
  ·cases e
noncomputable def cb:Cd where
 D ρ:=Bool->ρ
 k r:=fun _=>r
 dec f:=fun| .bool n=>some (f n)|_=> .none
 A f Q:= ∀n:Bool,Q (.bool n) (f n)
 law f v r Q h e:=by split at e<;>cases e;exact h _
noncomputable def cs:Cd where
 D ρ:=ByteArray->ρ
 k r:=fun _=>r
 dec f:=fun| .str n=>some (f n)|_=> .none
 A f Q:= ∀n:ByteArray,Q (.str n) (f n)
 law f v r Q h e:=by split at e<;>cases e;exact h _
noncomputable def lC:Cd where
 D ρ:=List Cl->ρ
 k r:=fun _=>r
 dec f:=fun| .sl .C n .none=>some (f n)|_=> .none
 A f Q:= ∀n:List Cl,Q (sC n) (f n)
 law f v r Q h e:=by split at e<;>cases e;exact h _
noncomputable def lT:Cd where
 D ρ:=List Tm->ρ
 k r:=fun _=>r
 dec f:=fun| .sl .T n .none=>some (f n)|_=> .none
 A f Q:= ∀n:List Tm,Q (sT n) (f n)
 law f v r Q h e:=by split at e<;>cases e;exact h _
noncomputable def lB:Cd where
 D ρ:=List (Br Tm)->ρ
 k r:=fun _=>r
 dec f:=fun| .sl .B n .none=>some (f n)|_=> .none
 A f Q:= ∀n:List (Br Tm),Q (sB n) (f n)
 law f v r Q h e:=by split at e<;>cases e;exact h _
noncomputable def lI:Cd where
 D ρ:=List Int->ρ
 k r:=fun _=>r
 dec f:=fun| .sl .I n .none=>some (f n)|_=> .none
 A f Q:= ∀n:List Int,Q (la n .none) (f n)
 law f v r Q h e:=by split at e<;>cases e;exact h _
noncomputable def lF:Cd where
 D ρ:=List (List Cl)->ρ
 k r:=fun _=>r
 dec f:=fun| .sl .F n .none=>some (f n)|_=> .none
 A f Q:= ∀n:List (List Cl),Q (Hm n .none) (f n)
 law f v r Q h e:=by split at e<;>cases e;exact h _
noncomputable def lD:Cd where
 D ρ:=List Df->ρ
 k r:=fun _=>r
 dec f:=fun| .sl .D n .none=>some (f n)|_=> .none
 A f Q:= ∀n:List Df,Q (km n .none) (f n)
 law f v r Q h e:=by split at e<;>cases e;exact h _
noncomputable def lG:Cd where
 D ρ:=List Df->ρ
 k r:=fun _=>r
 dec f:=fun| .sl .G n .none=>some (f n)|_=> .none
 A f Q:= ∀n:List Df,Q (su n .none) (f n)
 law f v r Q h e:=by split at e<;>cases e;exact h _
noncomputable def hV:Cd where
 D ρ:=List Vd->ρ
 k r:=fun _=>r
 dec f:=fun| .fresh .V n=>some (f n)|_=> .none
 A f Q:= ∀n:List Vd,Q (frV n) (f n)
 law f v r Q h e:=by split at e<;>cases e;exact h _
noncomputable def hC:Cd where
 D ρ:=List Cl->ρ
 k r:=fun _=>r
 dec f:=fun| .fresh .C n=>some (f n)|_=> .none
 A f Q:= ∀n:List Cl,Q (Ev n) (f n)
 law f v r Q h e:=by split at e<;>cases e;exact h _
noncomputable def hT:Cd where
 D ρ:=List Tm->ρ
 k r:=fun _=>r
 dec f:=fun| .fresh .T n=>some (f n)|_=> .none
 A f Q:= ∀n:List Tm,Q (frT n) (f n)
 law f v r Q h e:=by split at e<;>cases e;exact h _
noncomputable def hB:Cd where
 D ρ:=List (Br Tm)->ρ
 k r:=fun _=>r
 dec f:=fun| .fresh .B n=>some (f n)|_=> .none
 A f Q:= ∀n:List (Br Tm),Q (uf n) (f n)
 law f v r Q h e:=by split at e<;>cases e;exact h _
noncomputable def nB:Cd where
 D ρ:=ρ
 k r:=r
 dec f:=fun| .sl .B l .nil=>(match (l:List (Br Tm)) with|[]=>some f|_::_=> .none)|_=> .none
 A f Q:=Q (dN [] .nil) f
 law f v r Q h e:=by
  split at e
  ·split at e
   ·cases e;exact h
   ·cases e
  ·cases e
noncomputable def cT:Cd where
 D ρ:=Tm->ρ
 k r:=fun _=>r
 dec f:=fun| .agg [.int .i64 a,.int .i64 b,.str c,.sl .C d .none,.sl .T e .none,.sl .B g .none]=>some (f (Tm.mk a b c d e g))|_=> .none
 A f Q:= ∀t:Tm,Q (aT t) (f t)
 law f v r Q h e:=by split at e<;>cases e;exact h (Tm.mk _ _ _ _ _ _)
noncomputable def cC:Cd where
 D ρ:=Cl->ρ
 k r:=fun _=>r
 dec f:=fun| .agg [.int .u32 a,.int .u32 b]=>some (f ⟨a,b⟩)|_=> .none
 A f Q:= ∀t:Cl,Q (aC t) (f t)
 law f v r Q h e:=by split at e<;>cases e;exact h (⟨_,_⟩)
noncomputable def cB:Cd where
 D ρ:=Br Tm->ρ
 k r:=fun _=>r
 dec f:=fun| .agg [.sl .C a .none,.sl .T b .none]=>some (f (Br.mk a b))|_=> .none
 A f Q:= ∀t:Br Tm,Q (aB t) (f t)
 law f v r Q h e:=by split at e<;>cases e;exact h (Br.mk _ _)
noncomputable def xT (s:Bs):Bs where
 D ρ:=Tm->s.D ρ
 n:=s.n+1
 k r:=fun _=>s.k r
 dec f:=fun| .cells [.int .i64 a,.int .i64 b,.str c,.sl .C d .none,.sl .T e .none,.sl .B g .none]::l=>s.dec (f (Tm.mk a b c d e g)) l|_=> .none
 A f Q:= ∀t:Tm,s.A (f t) fun l r=>Q (bT t::l) r
 law f v r Q h e:=by
  split at e
  ·have:=s.law _ _ r _ (h (Tm.mk _ _ _ _ _ _)) e;exact this
  ·cases e
 len f v r e:=by
  split at e
  ·simp [s.len _ _ r e]
  ·cases e
noncomputable def xC (s:Bs):Bs where
 D ρ:=Cl->s.D ρ
 n:=s.n+1
 k r:=fun _=>s.k r
 dec f:=fun| .cells [.int .u32 a,.int .u32 b]::l=>s.dec (f ⟨a,b⟩) l|_=> .none
 A f Q:= ∀t:Cl,s.A (f t) fun l r=>Q (bC t::l) r
 law f v r Q h e:=by
  split at e
  ·have:=s.law _ _ r _ (h (⟨_,_⟩)) e;exact this
  ·cases e
 len f v r e:=by
  split at e
  ·simp [s.len _ _ r e]
  ·cases e
noncomputable def xI (s:Bs):Bs where
 D ρ:=Int->s.D ρ
 n:=s.n+1
 k r:=fun _=>s.k r
 dec f:=fun| .cells [.int .i64 a]::l=>s.dec (f a) l|_=> .none
 A f Q:= ∀t:Int,s.A (f t) fun l r=>Q (bI t::l) r
 law f v r Q h e:=by
  split at e
  ·have:=s.law _ _ r _ (h _) e;exact this
  ·cases e
 len f v r e:=by
  split at e
  ·simp [s.len _ _ r e]
  ·cases e
noncomputable def cp (i:Nat):Cd where
 D ρ:=ρ
 k r:=r
 dec f:=fun| .ptr j 0=>(match decEq j i with| .isTrue _=>some f| .isFalse _=> .none)|_=> .none
 A f Q:=Q (pt i) f
 law f v r Q h e:=by
  split at e
  ·split at e
   ·rename_i q _;subst q;cases e;exact h
   ·cases e
  ·cases e
noncomputable def cg (s:Cs):Cd where
 D ρ:=s.D ρ
 k r:=s.k r
 dec f:=fun| .agg l=>s.dec f l|_=> .none
 A f Q:=s.A f fun l r=>Q (.agg l) r
 law f v r Q h e:=by
  split at e
  ·have:=s.law f _ r _ h e;exact this
  ·cases e
noncomputable def cf (i:Nat) (s:Cs) (u:Cs):Cd where
 D ρ:=s.D (u.D ρ)
 k r:=s.k (u.k r)
 dec f:=fun| .func j l m=>(match decEq j i with| .isTrue _=>(s.dec f l).bind fun g=>u.dec g m| .isFalse _=> .none)|_=> .none
 A f Q:=s.A f fun l g=>u.A g fun m r=>Q (.func i l m) r
 law f v r Q h e:=by
  split at e
  ·split at e
   ·rename_i q _
    subst q
    obtain ⟨g,h1,h2⟩:=Option.bind_eq_some_iff.1 e
    have:=u.law g _ r _ (s.law f _ g _ h h1) h2;exact this
   ·cases e
  ·cases e
noncomputable def aj {S:Type} (K:Cs) (B:Bs) (F:K.D (B.D (Kn S))):Rw S:=fun vs bs κ=>(K.dec F vs).bind fun g=>(B.dec g bs).bind fun h=>h κ
noncomputable def uy (K:Cs) (B:Bs) (vs:List PU) (bs:List (pA UU)):Bool:=((K.dec (K.k (B.k ())) vs).bind fun g=>B.dec g bs).isSome
noncomputable def AA {S:Type} (K:Cs) (B:Bs) (F:K.D (B.D (Kn S))) (Q:List PU->List (pA UU)->Kn S->Prop):Prop:=K.A F fun vs g=>B.A g fun bs h=>Q vs bs h
theorem Ay {S:Type} {K:Cs} {B:Bs} {F:K.D (B.D (Kn S))} {Q:List PU->List (pA UU)->Kn S->Prop} (hA:AA K B F Q) {vs:List PU} {bs:List (pA UU)} {κ:Out UU->Option S} {x:S} (h:aj K B F vs bs κ=some x):
  ∃g,Q vs bs g/\g κ=some x/\vs.length=K.n/\bs.length=B.n:=by
 obtain ⟨g,h1,h2⟩:=Option.bind_eq_some_iff.1 h
 obtain ⟨u,q,z⟩:=Option.bind_eq_some_iff.1 h2
 have:=K.law F vs g _ hA h1
 have:=B.law g bs u _ this q
 exact ⟨u,this,z,K.len _ _ _ h1,B.len _ _ _ q⟩
noncomputable def Tl {S:Type} (o:Obj) (f:Nat) (r:Rw S):Prop:= ∀vs bs κ x,r vs bs κ=some x-> ∃out,ci (LL o) f vs bs out/\κ out=some x
noncomputable def vt {S:Type}:List (Nat×Rw S)->sP UU S
 |[],_,_,_,_=> .none
 |(g,r)::l,f,vs,bs,κ=>bif qC f g then r vs bs κ else vt l f vs bs κ
noncomputable def TA {S:Type} (o:Obj):List (Nat×Rw S)->Prop
 |[]=>True
 |(f,r)::l=>Tl o f r/\TA o l
theorem TA.tells {S:Type} {o:Obj}: ∀ {l:List (Nat×Rw S)},TA o l->(vt l).Tells (ci (LL o))
 |[],_,f,vs,bs,κ,x,h=>by cases h
 |(g,r)::l,hl,f,vs,bs,κ,x,h=>by
  unfold vt at h
  cases hb:qC f g with
  |true=>
   rw [hb] at h
   have:=Nat.eq_of_beq_eq_true hb
   subst this
   exact hl.1 _ _ _ _ h
  |false=>
   rw [hb] at h
   exact TA.tells hl.2 _ _ _ _ _ h
noncomputable def ol {S:Type} (b:List PU->List (pA UU)->Bool) (r q:Rw S):Rw S:=fun vs bs κ=>bif b vs bs then r vs bs κ else q vs bs κ
theorem vw {S:Type} {o:Obj} {f:Nat} {b:List PU->List (pA UU)->Bool} {r q:Rw S} (h1:Tl o f r) (h2:Tl o f q):Tl o f (ol b r q):=fun vs bs κ x h=>by
 unfold ol at h
 rcases ZM h with h|h
 ·exact h1 _ _ _ _ h
 ·exact h2 _ _ _ _ h
structure Fx (S:Type) where
 sd:s8 UU
 rows:List (Nat×Rw S)
 loops:List (Nat×BX×List Bool)
 k:Nat
 fn:Func
 kp:Bool
 hn:List Bool
 nb:Nat
 cd:Option (PU->sP UU S)
noncomputable def Jm:List (Nat×BX×List Bool)->Nat->Option BX
 |[],_=> .none
 |(i,a,_)::l,n=>bif qC n i then some a else Jm l n
noncomputable def Fl:List (Nat×BX×List Bool)->Nat->BX×List Bool
 |[],_=>(⟨[],[]⟩,[])
 |(i,a)::l,n=>bif qC n i then a else Fl l n
noncomputable def aS (rs:List Nat) (bs:List (Nat×Nat)):BX:=⟨rs.map fun n=>(n,.none),bs.map fun p=>(p.1,List.replicate p.2 .none)⟩
noncomputable def ap:Nat->Nat->List Bool
 |0,_=>[]
 |n+1,b=>qC (b%2) 1::ap n (b/2)
noncomputable def fx {S:Type} (nt:Nat) (q:Nat->List Bool) (ip:Nat->Bool) (rows:List (Nat×Rw S)) (loops:List (Nat×BX×List Bool)) (k:Nat) (fn:Func) (kp:Bool) (hn:List Bool) (nb:Nat):Fx S:=
 ⟨⟨nt,q,ip,.none,fun _=>false⟩,rows,loops,k,fn,kp,hn,nb,.none⟩
noncomputable def fp {S:Type} (nt:Nat) (rows:List (Nat×Rw S)) (loops:List (Nat×BX×List Bool)) (k:Nat) (fn:Func) (nb:Nat):Fx S:=fx nt (fun _=>[]) (fun _=>false) rows loops k fn false [] nb
variable {S:Type}
noncomputable def Fx.oc (F:Fx S):sP UU S:=vt F.rows
noncomputable def Fx.an (F:Fx S):Nat->Option BX:=Jm F.loops
noncomputable def Fx.go (F:Fx S) (c:Code) (σ:St UU) (κ:Ex UU->St UU->Option S):Option S:=PI.run VV F.sd F.oc F.an F.k c σ κ
noncomputable def Fx.kt (F:Fx S) (κ:Out UU->Option S) (p:List Bool) (q:List (St UU->Option S)):Ex UU->St UU->Option S:=match F.cd with
 | .none=>kn VV F.sd F.oc F.an F.k (Mb F.fn) p q F.an (kF VV F.oc F.kp F.hn F.fn F.nb κ)
 |some C=>Lz VV F.sd F.oc F.an F.k (Mb F.fn) p q F.an (kF VV F.oc F.kp F.hn F.fn F.nb κ) (kD VV F.oc C F.kp F.hn F.fn F.nb κ)
noncomputable def Fx.run (F:Fx S) (vs:List PU) (bs:List (pA UU)) (κ:Out UU->Option S):Option S:=match F.cd with
 | .none=>rC VV F.sd F.oc F.an F.k F.kp F.hn F.fn vs bs κ
 |some C=>G4 VV F.sd F.oc F.an F.k C F.kp F.hn F.fn vs bs κ
noncomputable def Fx.A (F:Fx S) (i:Nat):BX:=(Fl F.loops i).1
noncomputable def Fx.p (F:Fx S) (i:Nat):List Bool:=(Fl F.loops i).2
noncomputable def Fx.lp (F:Fx S) (κ:Out UU->Option S) (i:Nat) (q:List (St UU->Option S)) (n:Nat) (σ:St UU):Option S:=
 uR (Hg (F.A i)) (fun σ κ=>F.go (g9 (Mb F.fn) (F.p i++[false])) σ κ) n σ (F.kt κ (F.p i) q)
noncomputable def Fx.st (F:Fx S) (κ:Out UU->Option S) (i:Nat) (q:List (St UU->Option S)) (r:St UU->Option S) (σ:St UU):Option S:=
 F.go (g9 (Mb F.fn) (F.p i++[false])) σ (back (Hg (F.A i)) r (F.kt κ (F.p i) q))
noncomputable def Fx.jn (F:Fx S) (κ:Out UU->Option S) (i:Nat) (q:List (St UU->Option S)) (n:Nat) (σ:St UU):Option S:=
 ER (fun σ κ=>F.go (g9 (Mb F.fn) (F.p i)) σ κ) n σ (F.kt κ (F.p i) q)
noncomputable def Fx.sj (F:Fx S) (κ:Out UU->Option S) (i:Nat) (q:List (St UU->Option S)) (σ:St UU):Option S:=F.go (g9 (Mb F.fn) (F.p i)) σ (F.kt κ (F.p i) q)
theorem Fx.lp_succ (F:Fx S) (κ:Out UU->Option S) (i:Nat) (q:List (St UU->Option S)) (n:Nat) (σ:St UU):F.lp κ i q (n+1) σ=F.st κ i q (fun τ=>F.lp κ i q n τ) σ:=rfl
theorem Fx.jn_succ (F:Fx S) (κ:Out UU->Option S) (i:Nat) (q:List (St UU->Option S)) (n:Nat) (σ:St UU):F.jn κ i q (n+1) σ=F.sj κ i q σ:=rfl
noncomputable def vu (F:Fx S) (n m:Nat):Bool:=(F.fn.name== "runtime.NumGoroutine")==false&&(F.fn.body.isNone==false&&(qC F.fn.ntmps F.sd.nt&&(xq F.sd.nt 1000000&&(xq n F.sd.nt&&xq m 1000000))))
theorem FV {F:Fx S} {n m:Nat} (h:vu F n m=true):(F.fn.name== "runtime.NumGoroutine")=false/\F.fn.body.isNone=false/\F.fn.ntmps=F.sd.nt/\F.sd.nt<=1000000/\n<=F.sd.nt/\m<=1000000:=by
 unfold vu at h
 simp only [qk,beq_iff_eq] at h
 obtain ⟨h1,h2,q,x,z,A⟩:=h
 exact ⟨h1,h2,Nat.eq_of_beq_eq_true q,Nat.le_of_ble_eq_true x,Nat.le_of_ble_eq_true z,Nat.le_of_ble_eq_true A⟩
theorem ak {o:Obj} {K:Cs} {B:Bs} {R:K.D (B.D (Kn S))} (F:Fx S) {f:FuncId} (z:TA o F.rows) (hf:Tryz.prog.funcs[f]? =some F.fn) (hb:vu F K.n B.n=true) (run:AA K B R fun vs bs g=> ∀κ x,g κ=some x->F.run vs bs κ=some x)
  (h1:F.sd.nI= .none:=by rfl) (h2:F.sd.nj=(fun _=>false):=by rfl) (A:F.cd= .none:=by rfl):Tl o f (aj K B R):=fun vs bs κ x h=>by
 obtain ⟨g,E,I,hl,T⟩:=Ay run h
 have q:=E κ x I
 unfold Fx.run at q
 rw [A] at q
 obtain ⟨J,L,M,O,W,Y⟩:=FV hb
 exact sw (QJ Ax (Ad o) h1 h2 z.tells hf J L M O (by omega) q)
open Classical in
noncomputable def DB {S:Type} (bs:List (pA UU)) (κ:Out UU->Option S):Out UU->Option S
 | .ret v cs=>if cs=bs then κ (.ret v []) else .none
 | .panic .. => .none
theorem tlS {S:Type} {o:Obj} {K:Cs} {B:Bs} {R:K.D (B.D (Kn S))} {f:FuncId} {r:Rw S} (h:Tl o f r) (run:AA K B R fun vs bs g=> ∀κ x,g κ=some x->r vs bs (DB bs κ)=some x):Tl o f (aj K B R):=fun vs bs κ x z=>by
 obtain ⟨g,E,z,_⟩:=Ay run z
 obtain ⟨out,A,q⟩:=h _ _ _ _ (E κ x z)
 cases out with
 |panic v cs=>cases q
 |ret v cs=>
  simp only [DB] at q
  split at q
  case isFalse=>cases q
  rename_i hc
  subst hc
  refine ⟨.ret v [], ?_,q⟩
  have e:Out.full cs (.ret v [])=Out.full cs (.ret v cs):=by
   have hb:xq cs.length cs.length=true:=by simp
   simp only [Out.full,hb,cond_true]
   cases cs<;>rfl
  unfold ci
  rw [e]
  exact A
open Classical in
noncomputable def SD {S:Type} (n m:Nat) (bs:List (pA UU)) (κ:Out UU->Option S):Out UU->Option S
 | .ret v cs=>match cs[n]? with
  |some (.cells a)=>if xq bs.length 1=false/\M8 bs [.cells (.int .i64 n::a.take m)]=cs then κ (.ret v [.cells (.int .i64 n::a.take m)]) else .none
  |_=> .none
 | .panic .. => .none
theorem pa {S:Type} {o:Obj} {K:Cs} {B:Bs} {R:K.D (B.D (Kn S))} {f:FuncId} {r:Rw S} {n m:Nat} (h:Tl o f r) (run:AA K B R fun vs bs g=> ∀κ x,g κ=some x->r vs bs (SD n m bs κ)=some x):Tl o f (aj K B R):=fun vs bs κ x z=>by
 obtain ⟨g,E,z,_⟩:=Ay run z
 obtain ⟨out,A,q⟩:=h _ _ _ _ (E κ x z)
 cases out with
 |panic v cs=>cases q
 |ret v cs=>
  simp only [SD] at q
  split at q
  case h_2=>cases q
  rename_i a ha
  split at q
  case isFalse=>cases q
  rename_i hc
  obtain ⟨hl,hc⟩:=hc
  refine ⟨.ret v _, ?_,q⟩
  have e:Out.full bs (.ret v [.cells (.int .i64 n::a.take m)])=Out.full bs (.ret v cs):=by
   have h1:Out.full bs (.ret v [.cells (.int .i64 n::a.take m)])= .ret v cs:=by
    simp only [Out.full]
    rw [show [(pA.cells (.int .i64 n::a.take m):pA UU)].length=1 from rfl,hl,cond_false,hc]
   have h2:cs.length=bs.length:=by
    rw [<-hc];unfold M8;split<;>(try split)<;>simp
   have F:xq bs.length cs.length=true:=by rw [h2];simp
   rw [h1]
   simp only [Out.full,F,cond_true]
  unfold ci
  rw [e]
  exact A
theorem dz {o:Obj} {K:Cs} {B:Bs} {R:K.D (B.D (Kn S))} {f:FuncId} (q:AA K B R fun vs bs g=> ∀κ x,g κ=some x->False):Tl o f (aj K B R):=fun vs bs κ x h=>by
 obtain ⟨g,z,A,_⟩:=Ay q h
 exact (z κ x A).elim
noncomputable def o9 (nt f:Nat) (fn:Func) (k:Nat):PU->sP UU S:=fun v g vs bs κ=>bif qC g f&&xq vs.length nt then G5 VV ⟨nt,fun _=>[],fun _=>false,.none,fun _=>false⟩ (vt []) (fun _=> .none) k true [] fn v vs bs κ else .none
theorem yn (o:Obj) {nt f:Nat} {fn:Func} {k:Nat} (hf:Tryz.prog.funcs[f]? =some fn) (hb:vu (fp nt [] [] k fn 0:Fx S) 0 0=true): ∀v u q,BW v u q->(o9 (S:=S) nt f fn k v).Tells (jS (LL o) (jM Tryz.prog u q)):=by
 intro v u q hv g vs bs κ x h
 unfold o9 at h
 cases hc:qC g f&&xq vs.length nt with
 |false=>rw [hc] at h;cases h
 |true=>
  rw [hc] at h
  rw [qk] at hc
  have:=Nat.eq_of_beq_eq_true hc.1
  subst this
  obtain ⟨z,A,B,E,_,_⟩:=FV hb
  exact sw (aiz Ax (Ad o) rfl rfl (TA.tells (l:=[]) (o:=o) trivial) hf z A B E hv (Nat.le_of_ble_eq_true hc.2) h)
theorem BZ {o:Obj} {K:Cs} {B:Bs} {R:K.D (B.D (Kn S))} (F:Fx S) {f:FuncId} {C:PU->sP UU S} (A:F.cd=some C) (hC: ∀v u z,BW v u z->(C v).Tells (jS (LL o) (jM Tryz.prog u z))) (E:TA o F.rows) (hf:Tryz.prog.funcs[f]? =some F.fn) (hb:vu F K.n B.n=true)
  (run:AA K B R fun vs bs g=> ∀κ x,g κ=some x->F.run vs bs κ=some x) (h1:F.sd.nI= .none:=by rfl):Tl o f (aj K B R):=fun vs bs κ x h=>by
 obtain ⟨g,I,J,hl,W⟩:=Ay run h
 have q:=I κ x J
 unfold Fx.run at q
 rw [A] at q
 obtain ⟨L,M,O,T,Y,b6⟩:=FV hb
 exact sw (aix Ax (Ad o) h1 E.tells hC hf L M O T (by omega) (by omega) q)
theorem ow {o:Obj} {K:Cs} {B:Bs} {R:K.D (B.D (Kn S))} (F:Fx S) {f:FuncId} (q:TA o F.rows) (hf:Tryz.prog.funcs[f]? =some F.fn) (run:AA K B R fun vs bs g=> ∀κ x,g κ=some x->F.run vs bs κ=some x) (hb:vu F K.n B.n=true:=by kernel_rfl)
  (h1:F.sd.nI= .none:=by rfl) (h2:F.sd.nj=(fun _=>false):=by rfl) (z:F.cd= .none:=by rfl):Tl o f (aj K B R):=ak F q hf hb run h1 h2 z
theorem gL {F:Fx S} {κ:Out UU->Option S} {i:Nat} {q:List (St UU->Option S)} {mk:St UU} {l:Nat->Option S} (b:Option S) (x:l 0= .none:=by rfl) (hs: ∀n,l (n+1)=b:=by intros;rfl) (B:F.sj κ i q mk=b:=by intros;kernel_rfl): ∀ (n:Nat),F.jn κ i q n mk=l n:=by
 intro n
 cases n with
 |zero=>intros;rw [x];rfl
 |succ n=>intros;rw [hs,Fx.jn_succ];exact B
theorem cF {F:Fx S} {κ:Out UU->Option S} {i:Nat} {z:List (St UU->Option S)} {x:Type} {mk:x->St UU} {l:Nat->x->Option S} (b:(x->Option S)->x->Option S) (A:l 0=fun q=> .none:=by rfl) (hs: ∀n,l (n+1)=b (l n):=by intros;rfl) (B: ∀ (r:St UU->Option S) q,F.st κ i z r (mk q)=b (fun q=>r (mk q)) q:=by intros;kernel_rfl): ∀ (n:Nat) q,F.lp κ i z n (mk q)=l n q:=by
 intro n
 induction n with
 |zero=>intros;rw [A];rfl
 |succ n E=>
  intros
  rw [hs,Fx.lp_succ,B]
  exact congrArg (fun g=>b g _) (funext fun q=>E q)
theorem nx {F:Fx S} {κ:Out UU->Option S} {i:Nat} {z:List (St UU->Option S)} {q:Type} {mk:q->St UU} {l:Nat->q->Option S} (b:q->Option S) (A:l 0=fun x=> .none:=by rfl) (hs: ∀n,l (n+1)=b:=by intros;rfl) (B: ∀x,F.sj κ i z (mk x)=b x:=by intros;kernel_rfl): ∀ (n:Nat) x,F.jn κ i z n (mk x)=l n x:=by
 intro n
 cases n with
 |zero=>intros;rw [A];rfl
 |succ n=>intros;rw [hs,Fx.jn_succ];exact B _
theorem aL {F:Fx S} {κ:Out UU->Option S} {i:Nat} {A:List (St UU->Option S)} {x z:Type} {mk:x->z->St UU} {l:Nat->x->z->Option S} (b:(x->z->Option S)->x->z->Option S) (E:l 0=fun q x1=> .none:=by rfl) (hs: ∀n,l (n+1)=b (l n):=by intros;rfl) (B: ∀ (r:St UU->Option S) q x1,F.st κ i A r (mk q x1)=b (fun q x1=>r (mk q x1)) q x1:=by intros;kernel_rfl): ∀ (n:Nat) q x1,F.lp κ i A n (mk q x1)=l n q x1:=by
 intro n
 induction n with
 |zero=>intros;rw [E];rfl
 |succ n I=>
  intros
  rw [hs,Fx.lp_succ,B]
  exact congrArg (fun g=>b g _ _) (funext fun q=>funext fun x1=>I q x1)
theorem Lb {F:Fx S} {κ:Out UU->Option S} {i:Nat} {A:List (St UU->Option S)} {q x:Type} {mk:q->x->St UU} {l:Nat->q->x->Option S} (b:q->x->Option S) (E:l 0=fun z x1=> .none:=by rfl) (hs: ∀n,l (n+1)=b:=by intros;rfl) (B: ∀z x1,F.sj κ i A (mk z x1)=b z x1:=by intros;kernel_rfl): ∀ (n:Nat) z x1,F.jn κ i A n (mk z x1)=l n z x1:=by
 intro n
 cases n with
 |zero=>intros;rw [E];rfl
 |succ n=>intros;rw [hs,Fx.jn_succ];exact B _ _
theorem eW {F:Fx S} {κ:Out UU->Option S} {i:Nat} {E:List (St UU->Option S)} {x z A:Type} {mk:x->z->A->St UU} {l:Nat->x->z->A->Option S} (b:(x->z->A->Option S)->x->z->A->Option S) (I:l 0=fun q x1 x2=> .none:=by rfl) (hs: ∀n,l (n+1)=b (l n):=by intros;rfl) (B: ∀ (r:St UU->Option S) q x1 x2,F.st κ i E r (mk q x1 x2)=b (fun q x1 x2=>r (mk q x1 x2)) q x1 x2:=by intros;kernel_rfl): ∀ (n:Nat) q x1 x2,F.lp κ i E n (mk q x1 x2)=l n q x1 x2:=by
 intro n
 induction n with
 |zero=>intros;rw [I];rfl
 |succ n J=>
  intros
  rw [hs,Fx.lp_succ,B]
  exact congrArg (fun g=>b g _ _ _) (funext fun q=>funext fun x1=>funext fun x2=>J q x1 x2)
theorem lp9 {F:Fx S} {κ:Out UU->Option S} {i:Nat} {W:List (St UU->Option S)} {z A E I J L M O T:Type} {mk:z->A->E->I->J->L->M->O->T->St UU} {l:Nat->z->A->E->I->J->L->M->O->T->Option S} (b:(z->A->E->I->J->L->M->O->T->Option S)->z->A->E->I->J->L->M->O->T->Option S) (Y:l 0=fun q x1 x2 x3 x4 x5 x6 x x8=> .none:=by rfl) (hs: ∀n,l (n+1)=b (l n):=by intros;rfl) (B: ∀ (r:St UU->Option S) q x1 x2 x3 x4 x5 x6 x x8,F.st κ i W r (mk q x1 x2 x3 x4 x5 x6 x x8)=b (fun q x1 x2 x3 x4 x5 x6 x x8=>r (mk q x1 x2 x3 x4 x5 x6 x x8)) q x1 x2 x3 x4 x5 x6 x x8:=by intros;kernel_rfl): ∀ (n:Nat) q x1 x2 x3 x4 x5 x6 x x8,F.lp κ i W n (mk q x1 x2 x3 x4 x5 x6 x x8)=l n q x1 x2 x3 x4 x5 x6 x x8:=by
 intro n
 induction n with
 |zero=>intros;rw [Y];rfl
 |succ n ih=>
  intros
  rw [hs,Fx.lp_succ,B]
  exact congrArg (fun g=>b g _ _ _ _ _ _ _ _ _) (funext fun q=>funext fun x1=>funext fun x2=>funext fun x3=>funext fun x4=>funext fun x5=>funext fun x6=>funext fun x=>funext fun x8=>ih q x1 x2 x3 x4 x5 x6 x x8)
theorem aG2 {F:Fx S} {κ:Out UU->Option S} {i:Nat} {ax:List (St UU->Option S)} {I J L M O T W Y ad ao x:Type} {mk:I->J->L->M->O->T->W->Y->ad->ao->x->St UU} {l:Nat->I->J->L->M->O->T->W->Y->ad->ao->x->Option S} (b:(I->J->L->M->O->T->W->Y->ad->ao->x->Option S)->I->J->L->M->O->T->W->Y->ad->ao->x->Option S) (h0:l 0=fun z x1 x2 x3 x4 x5 x6 A x8 E q=> .none:=by rfl) (hs: ∀n,l (n+1)=b (l n):=by intros;rfl) (B: ∀ (r:St UU->Option S) z x1 x2 x3 x4 x5 x6 A x8 E q,F.st κ i ax r (mk z x1 x2 x3 x4 x5 x6 A x8 E q)=b (fun z x1 x2 x3 x4 x5 x6 A x8 E q=>r (mk z x1 x2 x3 x4 x5 x6 A x8 E q)) z x1 x2 x3 x4 x5 x6 A x8 E q:=by intros;kernel_rfl): ∀ (n:Nat) z x1 x2 x3 x4 x5 x6 A x8 E q,F.lp κ i ax n (mk z x1 x2 x3 x4 x5 x6 A x8 E q)=l n z x1 x2 x3 x4 x5 x6 A x8 E q:=by
 intro n
 induction n with
 |zero=>intros;rw [h0];rfl
 |succ n ih=>
  intros
  rw [hs,Fx.lp_succ,B]
  exact congrArg (fun g=>b g _ _ _ _ _ _ _ _ _ _ _) (funext fun z=>funext fun x1=>funext fun x2=>funext fun x3=>funext fun x4=>funext fun x5=>funext fun x6=>funext fun A=>funext fun x8=>funext fun E=>funext fun q=>ih z x1 x2 x3 x4 x5 x6 A x8 E q)
end
end
section
noncomputable def wG:s8 UU:=⟨8,fun _=>[],fun _=>false,.none,fun _=>false⟩
noncomputable def AE {S:Type}:sP UU S:=fun _ _ _ _=> .none
theorem c1 {S:Type} (κ:Out UU->Option S):rC VV wG AE (fun _=> .none) 5 false [] Tryz.f79 [.sl (U:=UU) ET.C [] .void] [] κ=κ (.ret (bZ [] .none) []):=by kernel_rfl
theorem c2 {S:Type} (l:List Cl) (κ:Out UU->Option S):rC VV wG AE (fun _=> .none) 5 false [] Tryz.f79 [.sl (U:=UU) ET.C l .sure] [] κ=oa (aw 1099511627776 0 l.length) fun _=>κ (.ret (bZ l .none) []):=by kernel_rfl
theorem ahy {S:Type} (o:Obj):(AE (S:=S)).Tells (ci (LL o)):=fun _ _ _ _ _ h=>by cases h
theorem JC (o:Obj) {args:List PU} (hl:args.length=1) {out:Out UU} (h:rC VV wG AE (fun _=> .none) 5 false [] Tryz.f79 args [] some=some out):ci (LL o) 79 args [] out:=by
 obtain ⟨q,h1,h2⟩:=QJ Ax (Ad o) (S:=wG) rfl rfl (ahy o) (f:=79) Tryz.func79 (by kernel_rfl) rfl rfl (by decide) (by rw [hl];decide) h
 injection h1 with h1
 exact h1▸h2
theorem KS {X:qB VV Tryz.prog} {w:World} {vs:Array Value} {N0:aN} {ν:Nat->Nat} {δ:Nat->Option Nat} {ο:Nat->Array Value} {p q:PU} (h:uL X w vs N0 ν δ ο [p] [])
  (x:ue X w (NB N0 0 ν δ) (gB UU 0 ν) (vs.getD 0 undef) (δ 0) p->ue X w (NB N0 0 ν δ) (gB UU 0 ν) (vs.getD 0 undef) (δ 0) q):uL X w vs N0 ν δ ο [q] []:=
 {h with
  args:=fun j r hj=>by
   cases j with
   |zero=>
    injection hj with hj
    subst hj
    exact x (h.args 0 p rfl)
   |succ j=>simp at hj}
theorem Z5 (o:Obj) (l:List Cl) {u:Unit} (q:aw 1099511627776 0 l.length=some u):ci (LL o) 79 [bZ l .none] [] (.ret (bZ l .none) []):=by
 refine ⟨⟨Tryz.f79,Tryz.func79,by kernel_rfl,rfl⟩,fun w vs N0 ν δ ο z=> ?_⟩
 have E:pw (LL o) w (NB N0 0 ν δ) (gB UU 0 ν) (vs.getD 0 undef) (bZ l .none):=z.args 0 _ rfl
 generalize hv:vs.getD 0 undef=v at E
 cases E with
 |sl A n c _ _ _ val hl hc _ h1 h2=>
 cases A with
 |none=>
  have B:l=[]:=by
   cases l with
   |nil=>rfl
   |cons x r=>
    obtain ⟨a,ha,_⟩:=h1 0 x rfl 0 _ rfl
    cases ha
  subst B
  exact (JC o (args:=[bZ [] .void]) rfl (c1 some)).2 w vs N0 ν δ ο (KS z fun _=>by
   rw [hv];exact pw.sl (X:=LL o) none n c ET.C (show List Cl from []) .void val hl hc rfl h1 h2)
 |some a=>
  refine (JC o (args:=[bZ l .sure]) rfl (out:= .ret (bZ l .none) []) ((c2 l some).trans (by rw [q];rfl))).2 w vs N0 ν δ ο (KS z fun _=> ?_)
  rw [hv]
  exact pw.sl (X:=LL o) (some a) n c ET.C l .sure val hl hc (fun h=>by cases h) h1 h2
theorem akS {S:Type} (o:Obj) (ho:ai o) (vs:List PU) (bs:List (pA UU)) (κ:Out UU->Option S) (x:S) (h:G2 vs bs κ=some x): ∃out,ci (LL o) acO vs bs out/\κ out=some x:=by
 unfold G2 at h
 split at h
 case h_2=>cases h
 rename_i κ y
 unfold iz at h
 obtain ⟨u,q,h⟩:=Option.bind_eq_some_iff.1 h
 exact ⟨_,Z5 o y q,h⟩
end
section
noncomputable section
variable {S:Type}
noncomputable abbrev xO:Ob UU:=⟨0,ET.B,([]:List (Br Tm))⟩
noncomputable abbrev zm:Ob UU:=⟨0,ET.T,([]:List Tm)⟩
noncomputable abbrev xX:Ob UU:=⟨0,ET.C,([]:List Cl)⟩
noncomputable abbrev zu:PV UU:= .str pf
abbrev qn (n:Nat):Option (Nat×Bool):=some (n,true)
abbrev nP {α:Type}:Option α:= .none
theorem pz {R S:Type} {k:Nat} {f:(R->Option S)->Option S} {g:R->Option S} {a:Option S} {x:S} (h:aa k f g=some x) (e:a=f g:=by kernel_rfl):a=some x:=e.trans (al h)
def pW:Cs:=cc cI (cc lT cn)
def dV:Cs:=cc cI (cc cI cn)
def Ag:Cs:=cc cT (cc cI cn)
def Lh:Cs:=cc cT (cc cI (cc cI (cc (cp 0) cn)))
def fh:Bs:=xI xn
def kX5:Cs:=cc cT (cc (cf 117 cn (cc (cp 0) cn)) cn)
def kX6:Cs:=cc cT (cc (cf 119 cn (cc (cp 0) cn)) cn)
def xX7:Bs:=xc (cc (cf 118 cn (cc (cp 1) (cc (cp 0) cn))) cn) (xI xn)
def kX8:Cs:=cc cT (cc (cp 0) (cc (cp 1) cn))
def xX9:Bs:=xI (xc (cc (cf 118 cn (cc (cp 0) (cc (cp 1) cn))) cn) xn)
def EA:Cs:=cc cT cn
def Mr:Cs:=cc cI cn
def Ld:Cs:=cc cs cn
def uG:Cs:=cc cU cn
def ny:Cs:=cc cC cn
def uH:Cs:=cc cC (cc cC cn)
def EU:Cs:=cc cC (cc (cp 0) cn)
def wC:Bs:=xC xn
def Le:Cs:=cc lC (cc (cf 209 cn (cc (cp 0) cn)) cn)
def alt:Bs:=xc (cc lC cn) xn
def eo:Cs:=cc lC cn
def jk:Cs:=cc lC (cc lC cn)
def lS:Cs:=cc cU (cc cI cn)
def EV:Cs:=cc lC (cc cI cn)
def Lf:Cs:=cc lC (cc (cf 175 cn cn) cn)
def r0:Cs:=cc cT (cc cI (cc cI cn))
def Lg:Cs:=cc cT (cc cI (cc cI (cc cb cn)))
def adA:Cs:=cc cT (cc cI (cc cI (cc (cp 0) (cc (cp 1) (cc (cp 2) cn)))))
def Ut:Bs:=xI (xI (xc (cc cb cn) xn))
def adB:Cs:=cc cT (cc (cf 59 cn (cc (cp 0) (cc (cp 1) (cc (cp 2) cn)))) cn)
def EW:Cs:=cc lT cn
def EX:Cs:=cc (cp 0) cn
def adC:Cs:=cc cT (cc (cf 197 cn (cc (cp 0) cn)) cn)
def adD:Cs:=cc lF cn
def adE:Cs:=cc cU (cc cI (cc cI cn))
def Li:Cs:=cc cC (cc cI (cc cI cn))
def Lj:Cs:=cc hC (cc cC (cc (cp 0) (cc (cp 1) cn)))
def ih:Bs:=xI (xI xn)
def aGz:Cs:=cc lC (cc hC (cc (cf 203 cn (cc (cp 0) (cc (cp 1) cn))) cn))
def adG:Cs:=cc lC (cc cI (cc cI cn))
def EY:Cs:=cc (cg (cc cI (cc cI cn))) (cc lC (cc cI cn))
def adH:Cs:=cc (cg (cc cI (cc cI cn))) (cc cT (cc cI (cc cI cn)))
def adI:Cs:=cc (cp 0) (cc (cp 1) (cc (cp 2) cn))
def aDy:Bs:=xI (xI (xT xn))
def aGA:Cs:=cc cT (cc lI (cc (cf 155 cn (cc (cp 0) (cc (cp 1) (cc (cp 2) cn)))) cn))
def adJ:Cs:=cc cT (cc cI (cc cT (cc cI (cc cI cn))))
def E0:Cs:=cc cT (cc (cf 199 cn (cc (cp 0) cn)) cn)
def Ai:Cs:=cc cT (cc cI (cc cT cn))
def adK:Cs:=cc (cp 0) (cc cT (cc cI cn))
def mf:Cs:=cc (cp 0) (cc cT (cc cT cn))
def adL:Cs:=cc cB cn
def E1:Cs:=cc lB (cc (cf 193 cn cn) cn)
def Lk:Cs:=cc lB cn
def aBu:Cs:=cc cT (cc cI (cc lC cn))
def adM:Cs:=cc (cf 221 cn cn) (cc (cp 0) (cc (cp 1) cn))
def Ii:Bs:=xI (xc (cc lC cn) xn)
def adO:Cs:=cc (cf 222 cn cn) (cc (cp 0) (cc (cp 1) cn))
def adP:Cs:=cc cI (cc lC cn)
def Ll:Cs:=cc lC (cc (cf 190 cn cn) cn)
def adQ:Cs:=cc lC (cc (cf 189 cn (cc (cp 0) cn)) cn)
def Aj:Cs:=cc lC (cc cC cn)
def E2:Cs:=cc lC (cc lC (cc (cf 264 cn cn) cn))
def aBv:Cs:=cc lC (cc cI (cc lC cn))
def adS:Cs:=cc lC (cc cI (cc (cp 0) (cc (cp 1) (cc (cp 2) cn))))
def aJr:Bs:=xI (xc (cc lC cn) (xc (cc (cf 222 cn cn) cn) xn))
def aGD:Cs:=cc lC (cc cC (cc (cp 0) (cc (cp 1) cn)))
def E3:Cs:=cc lC (cc lC (cc (cf 244 cn (cc (cp 0) (cc (cp 1) cn))) cn))
def Je:Bs:=xI (xc (cc lC cn) (xc (cc (cf 221 cn cn) cn) xn))
def Lm:Cs:=cc (cg (cc (cf 218 cn (cc (cp 0) (cc (cp 1) (cc (cp 2) cn)))) (cc (cf 218 cn (cc (cp 0) (cc (cp 1) (cc (cp 3) cn)))) cn))) (cc cT (cc cI cn))
def alv:Bs:=xI (xc (cc lC cn) (xc (cc (cf 221 cn cn) cn) (xc (cc (cf 222 cn cn) cn) xn)))
def Ln:Cs:=cc cI (cc (cp 0) cn)
def Uw:Bs:=xT xn
def adV:Cs:=cc (cg (cc (cf 218 cn (cc (cp 0) (cc (cp 1) (cc (cp 2) cn)))) (cc (cf 218 cn (cc (cp 0) (cc (cp 1) (cc (cp 3) cn)))) cn))) (cc lT (cc cI (cc (cf 226 cn (cc (cp 4) cn)) cn)))
def alw:Bs:=xI (xc (cc lC cn) (xc (cc (cf 221 cn cn) cn) (xc (cc (cf 222 cn cn) cn) (xI xn))))
def adW:Cs:=cc (cg (cc (cf 218 cn (cc (cp 0) (cc (cp 1) (cc (cp 2) cn)))) (cc (cf 218 cn (cc (cp 0) (cc (cp 1) (cc (cp 3) cn)))) cn))) (cc lT (cc cI (cc (cf 225 cn (cc (cp 4) cn)) cn)))
def aJs:Bs:=xI (xc (cc lC cn) (xc (cc (cf 221 cn cn) cn) (xc (cc (cf 222 cn cn) cn) (xT xn))))
def Lp:Cs:=cc lC (cc cI (cc (cp 0) cn))
def adX:Cs:=cc (cg (cc (cf 227 cn (cc (cp 0) cn)) (cc (cf 227 cn (cc (cp 0) cn)) cn))) (cc cT (cc cI cn))
def aBw:Cs:=cc (cg (cc (cf 227 cn (cc (cp 0) cn)) (cc (cf 227 cn (cc (cp 0) cn)) cn))) (cc lT (cc cI (cc (cf 226 cn (cc (cp 1) cn)) cn)))
def Lq:Cs:=cc (cg (cc (cf 227 cn (cc (cp 0) cn)) (cc (cf 227 cn (cc (cp 0) cn)) cn))) (cc lT (cc cI (cc (cf 225 cn (cc (cp 1) cn)) cn)))
def aJt:Bs:=xI (xT xn)
def Lr:Cs:=cc (cp 0) (cc cT (cc lC cn))
def Ls:Cs:=cc (cp 0) (cc cT cn)
def adY:Cs:=cc cI (cc lC (cc lT cn))
def adZ:Cs:=cc lD (cc cT cn)
def Lt:Cs:=cc (cp 0) (cc cI cn)
def ad0:Cs:=cc (cp 0) (cc cT (cc cI (cc cI cn)))
def Lu:Cs:=cc (cp 0) (cc lC cn)
def r8:Bs:=xI (xT (xI xn))
def ad2:Cs:=cc cT (cc lI (cc (cf 149 cn (cc (cp 0) (cc (cp 1) (cc (cp 2) cn)))) cn))
def aBy:Cs:=cc cT (cc cT (cc lB cn))
def ad4:Cs:=cc (cp 0) (cc cT (cc cT (cc lB cn)))
def ad5:Cs:=cc cT (cc lI (cc (cf 147 cn (cc (cp 0) (cc (cp 1) (cc (cp 2) cn)))) cn))
def ad6:Cs:=cc cT (cc cI (cc cT (cc (cp 0) (cc (cp 1) (cc (cp 2) cn)))))
def aJv:Bs:=xT (xI (xc (cc (cp 3) cn) (xI xn)))
def Lv:Cs:=cc lC (cc lT cn)
def ad8:Cs:=cc (cp 0) (cc lC (cc lC cn))
def ad9:Cs:=cc cT (cc lC (cc cT (cc cC (cc lC cn))))
def ad_:Cs:=cc cT (cc lC (cc cT cn))
def aea:Cs:=cc (cp 0) (cc cT (cc lC (cc cT cn)))
def h8:Bs:=xc (cc cI (cc lC (cc cI (cc cI (cc cs (cc lC (cc lT (cc lB cn)))))))) xn
def adv:Cs:=cc cI (cc cC (cc (cp 0) (cc (cp 1) (cc (cp 2) cn))))
def aJl:Bs:=xc (cc (cp 3) cn) (xT (xT (xc (cc cI (cc lC (cc cI (cc cI (cc cs (cc lC (cc lT (cc lB cn)))))))) xn)))
def adx:Cs:=cc (cp 0) (cc lC (cc cI cn))
def ady:Cs:=cc cI (cc lB (cc lT cn))
def adz:Cs:=cc lB (cc (cf 171 cn cn) cn)
def gi:Cs:=cc cT (cc lB cn)
def aGj:Cs:=cc lC (cc (cf 234 cn (cc (cp 0) cn)) cn)
def cZ:Cs:=cc (cp 0) (cc (cp 1) cn)
def ks:Bs:=xc (cc (cp 2) cn) (xT (xc (cc cI (cc lC (cc cI (cc cI (cc cs (cc lC (cc lT (cc lB (cc lB (cc cI (cc cI (cc cs (cc lC (cc lT (cc lB (cc cI (cc cI (cc cs (cc lC (cc lT (cc lB cn))))))))))))))))))))) xn))
def aGk:Cs:=cc (cp 0) (cc (cf 162 cn (cc (cp 1) (cc (cp 2) cn))) cn)
def aJm:Bs:=xc (cc cI (cc lC (cc cI (cc cI (cc cs (cc lC (cc lT (cc lB (cc lB (cc cI (cc cI (cc cs (cc lC (cc lT (cc lB (cc cI (cc cI (cc cs (cc lC (cc lT (cc lB cn))))))))))))))))))))) (xc (cc (cp 0) cn) (xT xn))
def aBm:Cs:=cc cB (cc (cp 0) cn)
def N1:Bs:=xc (cc (cp 1) cn) (xc (cc cI (cc lC (cc cI (cc cI (cc cs (cc lC (cc lT (cc lB (cc lB (cc cI (cc cI (cc cs (cc lC (cc lT (cc lB (cc cI (cc cI (cc cs (cc lC (cc lT (cc lB cn))))))))))))))))))))) xn)
def aGl:Cs:=cc lB (cc (cf 163 cn (cc (cp 0) cn)) cn)
def aJn:Bs:=xc (cc cI (cc lC (cc cI (cc cI (cc cs (cc lC (cc lT (cc lB (cc nB (cc cI (cc cI (cc cs (cc lC (cc lT (cc lB (cc cI (cc cI (cc cs (cc lC (cc lT (cc lB cn))))))))))))))))))))) xn
def aBn:Cs:=cc (cp 0) (cc cT (cc cT (cc cT (cc cT cn))))
def aGm:Cs:=cc cT (cc cT (cc cT (cc cT cn)))
def q4:Bs:=xc (cc (cf 164 cn (cc (cp 1) (cc (cp 2) cn))) cn) (xc (cc (cp 3) cn) (xT (xc (cc cI (cc lC (cc cI (cc cI (cc cs (cc lC (cc lT (cc lB (cc lB (cc cI (cc cI (cc cs (cc lC (cc lT (cc lB (cc cI (cc cI (cc cs (cc lC (cc lT (cc lB cn))))))))))))))))))))) xn)))
def aGn:Cs:=cc (cp 0) (cc (cf 166 cn (cc (cp 1) (cc (cp 2) cn))) cn)
def aJo:Bs:=xc (cc cI (cc lC (cc cI (cc cI (cc cs (cc lC (cc lT (cc lB (cc lB (cc cI (cc cI (cc cs (cc lC (cc lT (cc lB (cc cI (cc cI (cc cs (cc lC (cc lT (cc lB cn))))))))))))))))))))) (xc (cc (cf 164 cn (cc (cp 2) (cc (cp 3) cn))) cn) (xc (cc (cp 0) cn) (xT xn)))
def azp:Cs:=cc cB (cc (cp 0) (cc (cp 1) cn))
def aGo:Cs:=cc lB (cc (cf 167 cn (cc (cp 0) (cc (cp 1) cn))) cn)
def aJp:Bs:=xc (cc cI (cc lC (cc cI (cc cI (cc cs (cc lC (cc lT (cc lB (cc lB (cc cI (cc cI (cc cs (cc lC (cc lT (cc lB (cc cI (cc cI (cc cs (cc lC (cc lT (cc lB cn))))))))))))))))))))) xn
def aGp:Cs:=cc lB (cc (cf 99 cn (cc (cp 0) cn)) cn)
def aGq:Cs:=cc (cp 0) (cc (cf 102 cn (cc (cp 1) cn)) cn)
def aJq:Bs:=xc (cc cI (cc lC (cc cI (cc cI (cc cs (cc lC (cc lT (cc lB (cc lB (cc cI (cc cI (cc cs (cc lC (cc lT (cc lB (cc cI (cc cI (cc cs (cc lC (cc lT (cc lB cn))))))))))))))))))))) (xc (cc (cp 0) cn) xn)
def azq:Cs:=cc cT (cc (cp 0) cn)
def aAx:Bs:=xc (cc (cp 1) cn) (xc (cc cI (cc cI (cc cI (cc cs (cc lC (cc lT (cc lB (cc lB cn)))))))) xn)
def aBo:Cs:=cc (cp 0) (cc (cf 105 cn (cc (cp 1) cn)) cn)
def sY:Bs:=xc (cc cI (cc cI (cc cI (cc cs (cc lC (cc lT (cc lB (cc lB cn)))))))) (xc (cc (cp 0) cn) xn)
def et:Bs:=xc (cc cI (cc cI (cc cI (cc cs (cc lC (cc lT (cc lB (cc lB cn)))))))) xn
def aBp:Cs:=cc (cp 0) (cc (cf 107 cn (cc (cp 1) cn)) cn)
def aDw:Bs:=xc (cc cI (cc cI (cc cI (cc cs (cc lC (cc lT (cc lB (cc lB cn)))))))) (xI xn)
def azr:Cs:=cc cT (cc cT cn)
def aBq:Cs:=cc (cp 0) (cc (cf 108 cn (cc (cp 1) cn)) cn)
def aDx:Bs:=xc (cc (cp 2) cn) (xc (cc lB cn) (xI xn))
def aGr:Cs:=cc lB (cc (cf 113 cn (cc (cp 0) (cc (cp 1) cn))) cn)
def aGs:Cs:=cc cB (cc (cp 0) (cc (cp 1) (cc (cp 2) cn)))
def aAy:Bs:=xc (cc (cp 3) cn) (xT (xT (xI xn)))
def aBr:Cs:=cc lB (cc (cf 115 cn (cc (cp 0) (cc (cp 1) (cc (cp 2) cn)))) cn)
def aAz:Bs:=xT (xT xn)
def aBs:Cs:=cc lB (cc (cf 116 cn (cc (cp 0) (cc (cp 1) cn))) cn)
def SO:Bs:=xc (cc lD (cc cI cn)) xn
def aGt:Cs:=cc lT (cc lT (cc (cf 215 cn cn) cn))
def aGu:Cs:=cc cB (cc cB cn)
def aGv:Cs:=cc lB (cc lB (cc (cf 240 cn cn) cn))
def aGw:Cs:=cc lD (cc cT (cc cI cn))
def aBt:Cs:=cc lB (cc lB (cc (cf 70 cn cn) cn))
def aGx:Cs:=cc cC (cc cI cn)
def aGy:Cs:=cc cT (cc cC cn)
def aIR:Cs:=cc (cp 0) (cc cI (cc lC (cc lT (cc lT cn))))
def aOJ:Cs:=cc (cp 0) (cc cI (cc lB (cc lB cn)))
def aOK:Cs:=cc lD (cc cT (cc cT (cc cI cn)))
def aKN:Cs:=cc lG cn
def aOL:Cs:=cc lG (cc cT (cc cT (cc cI (cc cI cn))))
def aE (κ:Out UU->Option S):Int×Int×ByteArray×List Tm->Option S:=fun r=>κ (.ret (.agg [(iI r.1),(iI r.2.1),(.str r.2.2.1),(bZ [] .nil),(sT r.2.2.2),(dN [] .nil)]) [])
def aA (κ:Out UU->Option S):Int×Int->Option S:=fun r=>κ (.ret (.tuple [(iI r.1),(iI r.2)]) [])
def F9 (κ:Out UU->Option S):Bool->Option S:=fun r=>κ (.ret (.bool r) [])
def kT (c0:Int) (κ:Out UU->Option S):Bool->Option S:=fun r=>κ (.ret (.bool r) [bI c0])
def eJ (κ:Out UU->Option S):Bool×Int->Option S:=fun r=>κ (.ret (.bool r.1) [.cells [(.func 118 [] [(pt 1),(pt 0)])],bI r.2])
def gf (κ:Out UU->Option S):Bool×Int->Option S:=fun r=>κ (.ret (.bool r.1) [bI r.2,.cells [(.func 118 [] [(pt 0),(pt 1)])]])
def da (κ:Out UU->Option S):Int->Option S:=fun r=>κ (.ret (iI r) [])
def Oa (κ:Out UU->Option S):Cl->Option S:=fun r=>κ (.ret (aC r) [])
def Oc (c0:Cl) (κ:Out UU->Option S):Bool->Option S:=fun r=>κ (.ret (.bool r) [bC c0])
def A1 (c0:Cl) (κ:Out UU->Option S):Int->Option S:=fun r=>κ (.ret (iI r) [bC c0])
def ahX (c0:List Cl) (κ:Out UU->Option S):Bool->Option S:=fun r=>κ (.ret (.bool r) [.cells [(sC c0)]])
def ub (κ:Out UU->Option S):List Cl×Int->Option S:=fun r=>κ (.ret (.tuple [(sC r.1),(iI r.2)]) [])
def b_ (κ:Out UU->Option S):Int->Option S:=fun r=>κ (.ret (iU r) [])
def gc (c0 c1:Int) (c2:Bool) (κ:Out UU->Option S):Bool->Option S:=fun r=>κ (.ret (.bool r) [bI c0,bI c1,.cells [(.bool c2)]])
def aF (κ:Out UU->Option S):Tm->Option S:=fun r=>κ (.ret (aT r) [])
def AN (κ:Out UU->Option S):List Tm->Option S:=fun r=>κ (.ret (sT r) [])
def N7 (κ:Out UU->Option S):Bool×Int->Option S:=fun r=>κ (.ret (.bool r.1) [bI r.2])
def ahY (κ:Out UU->Option S):List Cl->Option S:=fun r=>κ (.ret (Ev r) [])
def AO (κ:Out UU->Option S):Int×Int->Option S:=fun r=>κ (.ret (.tuple [(iU r.1),(iI r.2)]) [])
def ahZ (κ:Out UU->Option S):Cl×Int->Option S:=fun r=>κ (.ret (.tuple [(aC r.1),(iI r.2)]) [])
def vA (c0 c1:Int) (κ:Out UU->Option S):List Cl×Int->Option S:=fun r=>κ (.ret (.tuple [(Ev r.1),(iI r.2)]) [bI c0,bI c1])
def N8 (c0 c1:Int) (κ:Out UU->Option S):List Cl×Int->Option S:=fun r=>κ (.ret (.tuple [(sC r.1),(iI r.2)]) [bI c0,bI c1])
def ah0 (κ:Out UU->Option S):px Int (List Cl)->Option S:=fun r=>px.elim r (fun r=>κ (.ret (sC r) [])) (fun e=>κ (.panic (.iface 35 (iI e)) []))
def AP (κ:Out UU->Option S):px Int Tm->Option S:=fun r=>px.elim r (fun r=>κ (.ret (aT r) [])) (fun e=>κ (.panic (.iface 35 (iI e)) []))
def ah1 (c0 c1:Int) (c2:Tm) (κ:Out UU->Option S):px Int Tm->Option S:=fun r=>px.elim r (fun r=>κ (.ret (aT r) [bI c0,bI c1,bT c2])) (fun e=>κ (.panic (.iface 35 (iI e)) [bI c0,bI c1,bT c2]))
def ah (c0 c1:Int) (c2:Tm) (κ:Out UU->Option S):Tm×Int->Option S:=fun r=>κ (.ret (.tuple [(aT r.1),(iI r.2)]) [bI c0,bI c1,bT c2])
def BB (κ:Out UU->Option S):Tm×Int->Option S:=fun r=>κ (.ret (.tuple [(aT r.1),(iI r.2)]) [])
def AQ (κ:Out UU->Option S):Tm×Int->Option S:=fun r=>κ (.ret (aT r.1) [bI r.2])
def cM (κ:Out UU->Option S):List Cl->Option S:=fun r=>κ (.ret (sC r) [])
def gR (c0:Int) (c1:List Cl) (κ:Out UU->Option S):Unit->Option S:=fun r=>κ (.ret (.func 218 [] [(pt 0),(pt 1),(pt 2)]) [bI c0,.cells [(sC c1)],.cells [(.func 221 [] [])]])
def ah3 (c0:Int) (c1:List Cl) (κ:Out UU->Option S):Unit->Option S:=fun r=>κ (.ret (.func 218 [] [(pt 0),(pt 1),(pt 2)]) [bI c0,.cells [(sC c1)],.cells [(.func 222 [] [])]])
def N9 (κ:Out UU->Option S):Int×List Cl->Option S:=fun r=>κ (.ret (.agg [(.func 218 [] [(pt 0),(pt 1),(pt 2)]),(.func 218 [] [(pt 0),(pt 1),(pt 3)])]) [bI r.1,.cells [(sC r.2)],.cells [(.func 221 [] [])],.cells [(.func 222 [] [])]])
def N_ (κ:Out UU->Option S):Cl×Bool->Option S:=fun r=>κ (.ret (.tuple [(aC r.1),(.bool r.2)]) [])
def mt (c0:Cl) (κ:Out UU->Option S):Cl×Bool->Option S:=fun r=>κ (.ret (.tuple [(aC r.1),(.bool r.2)]) [bC c0])
def e4 (c0:Cl) (κ:Out UU->Option S):List Cl->Option S:=fun r=>κ (.ret (sC r) [bC c0])
def ah5 (c0:Int) (c1:List Cl) (κ:Out UU->Option S):List Cl×Int->Option S:=fun r=>κ (.ret (.tuple [(sC r.1),(iI r.2)]) [bI c0,.cells [(sC c1)],.cells [(.func 222 [] [])]])
def q9 (c0:Int) (c1:List Cl) (κ:Out UU->Option S):List Cl×Int->Option S:=fun r=>κ (.ret (.tuple [(sC r.1),(iI r.2)]) [bI c0,.cells [(sC c1)]])
def aHm (c0:Int) (c1:List Cl) (κ:Out UU->Option S):List Cl×Int->Option S:=fun r=>κ (.ret (.tuple [(sC r.1),(iI r.2)]) [bI c0,.cells [(sC c1)],.cells [(.func 221 [] [])]])
def ah7 (c0:Int) (c1:List Cl) (κ:Out UU->Option S):List Cl×Int->Option S:=fun r=>κ (.ret (.tuple [(sC r.1),(iI r.2)]) [bI c0,.cells [(sC c1)],.cells [(.func 221 [] [])],.cells [(.func 222 [] [])]])
def ah8 (c0:Tm) (κ:Out UU->Option S):Int->Option S:=fun r=>κ (.ret (iI r) [bT c0])
def AR (c0:Int) (κ:Out UU->Option S):Int->Option S:=fun r=>κ (.ret (iI r) [bI c0])
def D1 (c0:Int) (c1:List Cl) (κ:Out UU->Option S):Tm×Int->Option S:=fun r=>κ (.ret (.tuple [(aT r.1),(iI r.2)]) [bI c0,.cells [(sC c1)],.cells [(.func 221 [] [])],.cells [(.func 222 [] [])]])
def vB (c0:Int) (c1:List Cl) (c4:Int) (κ:Out UU->Option S):List Tm×Int->Option S:=fun r=>κ (.ret (.tuple [(sT r.1),(iI r.2)]) [bI c0,.cells [(sC c1)],.cells [(.func 221 [] [])],.cells [(.func 222 [] [])],bI c4])
def H6 (c0:Int) (c1:List Cl) (c4:Tm) (κ:Out UU->Option S):List Tm×Int->Option S:=fun r=>κ (.ret (.tuple [(sT r.1),(iI r.2)]) [bI c0,.cells [(sC c1)],.cells [(.func 221 [] [])],.cells [(.func 222 [] [])],bT c4])
def aia (κ:Out UU->Option S):Int->Option S:=fun r=>κ (.ret (.agg [(.func 227 [] [(pt 0)]),(.func 227 [] [(pt 0)])]) [bI r])
def J3 (c0:Int) (κ:Out UU->Option S):List Cl×Int->Option S:=fun r=>κ (.ret (.tuple [(sC r.1),(iI r.2)]) [bI c0])
def ey (c0:Int) (κ:Out UU->Option S):Tm×Int->Option S:=fun r=>κ (.ret (.tuple [(aT r.1),(iI r.2)]) [bI c0])
def AT (c0 c1:Int) (κ:Out UU->Option S):List Tm×Int->Option S:=fun r=>κ (.ret (.tuple [(sT r.1),(iI r.2)]) [bI c0,bI c1])
def AU (c0:Int) (c1:Tm) (κ:Out UU->Option S):List Tm×Int->Option S:=fun r=>κ (.ret (.tuple [(sT r.1),(iI r.2)]) [bI c0,bT c1])
def AV (κ:Out UU->Option S):Tm×Bool×Int->Option S:=fun r=>κ (.ret (.tuple [(aT r.1),(.bool r.2.1)]) [bI r.2.2])
def SG (κ:Out UU->Option S):Tm×Bool->Option S:=fun r=>κ (.ret (.tuple [(aT r.1),(.bool r.2)]) [])
def vC (κ:Out UU->Option S):Int×Int×ByteArray×List Cl×List Tm->Option S:=fun r=>κ (.ret (.agg [(iI r.1),(iI r.2.1),(.str r.2.2.1),(sC r.2.2.2.1),(sT r.2.2.2.2),(dN [] .nil)]) [])
def AW (κ:Out UU->Option S):Tm×Bool×Int×Int->Option S:=fun r=>κ (.ret (.tuple [(aT r.1),(.bool r.2.1),(iI r.2.2.1)]) [bI r.2.2.2])
def AX (κ:Out UU->Option S):Tm×Bool×Int->Option S:=fun r=>κ (.ret (.tuple [(aT r.1),(.bool r.2.1),(iI r.2.2)]) [])
def AY (κ:Out UU->Option S):Int×Int×ByteArray×List Tm×List (Br Tm)->Option S:=fun r=>κ (.ret (.agg [(iI r.1),(iI r.2.1),(.str r.2.2.1),(bZ [] .nil),(dO r.2.2.2.1 .full),(sB r.2.2.2.2)]) [])
def cO (κ:Out UU->Option S):Int->Option S:=fun r=>κ (.ret (.tuple []) [bI r])
def AZ (κ:Out UU->Option S):Int->Option S:=fun r=>κ (.ret (pt 0) [bI r])
def aie (κ:Out UU->Option S):Tm×Int×Int->Option S:=fun r=>κ (.ret (.tuple [(aT r.1),(iI r.2.1)]) [bI r.2.2])
def y' (κ:Out UU->Option S):List Cl×Int->Option S:=fun r=>κ (.ret (sC r.1) [bI r.2])
def aCG (c0:Int) (c1:Tm) (c2:Int) (κ:Out UU->Option S):px Int Tm->Option S:=fun r=>px.elim r (fun r=>κ (.ret (aT r) [bI c0,bT c1,bI c2])) (fun e=>κ (.panic (.iface 35 (iI e)) [bI c0,bT c1,bI c2]))
def RL (c0:Int) (c1:Tm) (c2:Int) (κ:Out UU->Option S):Tm×Int->Option S:=fun r=>κ (.ret (.tuple [(aT r.1),(iI r.2)]) [bI c0,bT c1,bI c2])
def A0 (c0:Tm) (c1:Int) (κ:Out UU->Option S):Int×Int×ByteArray×List Tm×Int->Option S:=fun r=>κ (.ret (.agg [(iI r.1),(iI r.2.1),(.str r.2.2.1),(bZ [] .nil),(sT r.2.2.2.1),(dN [] .nil)]) [bT c0,bI c1,.cells [(pt 3)],bI r.2.2.2.2])
def aii (κ:Out UU->Option S):(Br Tm)->Option S:=fun r=>κ (.ret (aB r) [])
def aCH (κ:Out UU->Option S):Int×Int×ByteArray->Option S:=fun r=>κ (.ret (.agg [(iI r.1),(iI r.2.1),(.str r.2.2),(bZ [] .nil),(dO [] .nil),(dN [] .nil)]) [])
def aM (nX:Int) (nU:List Cl) (oU oT:Int) (o0:ByteArray) (oV:List Cl) (oW:List Tm) (nW:List (Br Tm)) (κ:Out UU->Option S):Int×Int×ByteArray×List Cl×List Tm->Option S:=fun r=>κ (.ret (.agg [(iI r.1),(iI r.2.1),(.str r.2.2.1),(sC r.2.2.2.1),(sT r.2.2.2.2),(dN [] .nil)]) [.cells [(iI nX),(sC nU),(iI oU),(iI oT),(.str o0),(sC oV),(sT oW),(sB nW)]])
def azN (nU:List Cl) (oU oT:Int) (o0:ByteArray) (oV:List Cl) (oW:List Tm) (nW:List (Br Tm)) (κ:Out UU->Option S):Int×Int×ByteArray×List Tm×Int->Option S:=fun r=>κ (.ret (.agg [(iI r.1),(iI r.2.1),(.str r.2.2.1),(bZ [] .nil),(sT r.2.2.2.1),(dN [] .nil)]) [.cells [(iI r.2.2.2.2),(sC nU),(iI oU),(iI oT),(.str o0),(sC oV),(sT oW),(sB nW)]])
def aHn (nU:List Cl) (oU oT:Int) (o0:ByteArray) (oV:List Cl) (oW:List Tm) (nW:List (Br Tm)) (κ:Out UU->Option S):Tm×Int->Option S:=fun r=>κ (.ret (aT r.1) [.cells [(iI r.2),(sC nU),(iI oU),(iI oT),(.str o0),(sC oV),(sT oW),(sB nW)]])
def aHo (c1 c2:Tm) (uu:List Cl) (tZ tY:Int) (tX:ByteArray) (tW:List Cl) (tV:List Tm) (tU:List (Br Tm)) (κ:Out UU->Option S):Int×Int×ByteArray×List Cl×List Tm×Int->Option S:=fun r=>κ (.ret (.agg [(iI r.1),(iI r.2.1),(.str r.2.2.1),(sC r.2.2.2.1),(sT r.2.2.2.2.1),(dN [] .nil)]) [.cells [(pt 3)],bT c1,bT c2,.cells [(iI r.2.2.2.2.2),(sC uu),(iI tZ),(iI tY),(.str tX),(sC tW),(sT tV),(sB tU)]])
def aCI (κ:Out UU->Option S):Int×Int×ByteArray×List Tm×List (Br Tm)->Option S:=fun r=>κ (.ret (.agg [(iI r.1),(iI r.2.1),(.str r.2.2.1),(bZ [] .nil),(sT r.2.2.2.1),(sB r.2.2.2.2)]) [])
def u2 (κ:Out UU->Option S):List (Br Tm)->Option S:=fun r=>κ (.ret (uf r) [])
def aCJ (κ:Out UU->Option S):List (Br Tm)->Option S:=fun r=>κ (.ret (sB r) [])
def aHp (c0:Int) (κ:Out UU->Option S):Cl×Bool->Option S:=fun r=>κ (.ret (.tuple [(aC r.1),(.bool r.2)]) [bI c0])
def bt (c0:Int) (κ:Out UU->Option S):List Cl->Option S:=fun r=>κ (.ret (sC r) [bI c0])
def aCK (c1:Tm) (q:List Cl) (x z:Int) (A:ByteArray) (B:List Cl) (E:List Tm) (F I:List (Br Tm)) (J L:Int) (M:ByteArray) (O:List Cl) (T:List Tm) (W:List (Br Tm)) (Y ad:Int) (ao:ByteArray) (ax:List Cl) (az:List Tm) (a6:List (Br Tm)) (κ:Out UU->Option S):Tm×Int->Option S:=fun r=>κ (.ret (aT r.1) [.cells [(pt 2)],bT c1,.cells [(iI r.2),(sC q),(iI x),(iI z),(.str A),(sC B),(sT E),(sB F),(sB I),(iI J),(iI L),(.str M),(sC O),(sT T),(sB W),(iI Y),(iI ad),(.str ao),(sC ax),(sT az),(sB a6)]])
def aHq (κ:Out UU->Option S):Tm×Int->Option S:=fun r=>κ (.ret (aT r.1) [.cells [.int .i64 2,(iI r.2)]])
def aHr (nU:List Cl) (oU oT:Int) (o0:ByteArray) (oV:List Cl) (oW:List Tm) (nW q:List (Br Tm)) (uO uX:Int) (uW:ByteArray) (uV:List Cl) (uU:List Tm) (uT:List (Br Tm)) (tT tR:Int) (tQ:ByteArray) (tP:List Cl) (tM:List Tm) (th:List (Br Tm)) (c2:Tm) (κ:Out UU->Option S):List (Br Tm)×Int->Option S:=fun r=>κ (.ret (dN r.1 .full) [.cells [(iI r.2),(sC nU),(iI oU),(iI oT),(.str o0),(sC oV),(sT oW),(sB nW),(sB q),(iI uO),(iI uX),(.str uW),(sC uV),(sT uU),(sB uT),(iI tT),(iI tR),(.str tQ),(sC tP),(sT tM),(sB th)],.cells [(pt 0)],bT c2])
def aHs (qT:List Cl) (qR qM:Int) (qK:ByteArray) (qJ:List Cl) (qI:List Tm) (qW sM:List (Br Tm)) (rq rO:Int) (rL:ByteArray) (rK:List Cl) (rE:List Tm) (rP:List (Br Tm)) (sK sJ:Int) (sI:ByteArray) (sH:List Cl) (sO:List Tm) (sN:List (Br Tm)) (κ:Out UU->Option S):(Br Tm)×Int->Option S:=fun r=>κ (.ret (aB r.1) [.cells [(pt 1)],.cells [(iI r.2),(sC qT),(iI qR),(iI qM),(.str qK),(sC qJ),(sT qI),(sB qW),(sB sM),(iI rq),(iI rO),(.str rL),(sC rK),(sT rE),(sB rP),(iI sK),(iI sJ),(.str sI),(sC sH),(sT sO),(sB sN)]])
def hq (qT:List Cl) (qR qM:Int) (qK:ByteArray) (qJ:List Cl) (qI:List Tm) (qW sM:List (Br Tm)) (rq rO:Int) (rL:ByteArray) (rK:List Cl) (rE:List Tm) (rP:List (Br Tm)) (sK sJ:Int) (sI:ByteArray) (sH:List Cl) (sO:List Tm) (sN:List (Br Tm)) (κ:Out UU->Option S):List (Br Tm)×Int->Option S:=fun r=>κ (.ret (uf r.1) [.cells [(pt 1)],.cells [(iI r.2),(sC qT),(iI qR),(iI qM),(.str qK),(sC qJ),(sT qI),(sB qW),(sB sM),(iI rq),(iI rO),(.str rL),(sC rK),(sT rE),(sB rP),(iI sK),(iI sJ),(.str sI),(sC sH),(sT sO),(sB sN)]])
def s4 (nU:List Cl) (oU oT:Int) (o0:ByteArray) (oV:List Cl) (oW:List Tm) (nW:List (Br Tm)) (tT tR:Int) (tQ:ByteArray) (tP:List Cl) (tM:List Tm) (th:List (Br Tm)) (κ:Out UU->Option S):Int×List (Br Tm)×Int×Int×ByteArray×List Cl×List Tm×List (Br Tm)->Option S:=fun r=>κ (.ret (.tuple []) [.cells [(iI r.1),(sC nU),(iI oU),(iI oT),(.str o0),(sC oV),(sT oW),(sB nW),(sB r.2.1),(iI r.2.2.1),(iI r.2.2.2.1),(.str r.2.2.2.2.1),(sC r.2.2.2.2.2.1),(sT r.2.2.2.2.2.2.1),(sB r.2.2.2.2.2.2.2),(iI tT),(iI tR),(.str tQ),(sC tP),(sT tM),(sB th)]])
def aCL (κ:Out UU->Option S):Int×Int×ByteArray×List Tm×Int->Option S:=fun r=>κ (.ret (.agg [(iI r.1),(iI r.2.1),(.str r.2.2.1),(bZ [] .nil),(sT r.2.2.2.1),(dN [] .nil)]) [bI r.2.2.2.2])
def aHt (c1:Tm) (q:List Cl) (x z:Int) (A:ByteArray) (B:List Cl) (E:List Tm) (F I:List (Br Tm)) (J L:Int) (M:ByteArray) (O:List Cl) (T:List Tm) (W:List (Br Tm)) (Y ad:Int) (ao:ByteArray) (ax:List Cl) (az:List Tm) (a6:List (Br Tm)) (κ:Out UU->Option S):Int×Int×ByteArray×List Cl×List Tm×Int->Option S:=fun r=>κ (.ret (.agg [(iI r.1),(iI r.2.1),(.str r.2.2.1),(sC r.2.2.2.1),(sT r.2.2.2.2.1),(dN [] .nil)]) [.cells [(pt 2)],bT c1,.cells [(iI r.2.2.2.2.2),(sC q),(iI x),(iI z),(.str A),(sC B),(sT E),(sB F),(sB I),(iI J),(iI L),(.str M),(sC O),(sT T),(sB W),(iI Y),(iI ad),(.str ao),(sC ax),(sT az),(sB a6)]])
def aCM (c2:Tm) (uu:List Cl) (tZ tY:Int) (tX:ByteArray) (tW:List Cl) (tV:List Tm) (tU vi:List (Br Tm)) (vh wi:Int) (wc:ByteArray) (v8:List Cl) (aq_:List Tm) (v7:List (Br Tm)) (vn vm:Int) (vl:ByteArray) (vk:List Cl) (vj:List Tm) (arg:List (Br Tm)) (κ:Out UU->Option S):Int×Int×ByteArray×List Cl×List Tm×Int->Option S:=fun r=>κ (.ret (.agg [(iI r.1),(iI r.2.1),(.str r.2.2.1),(sC r.2.2.2.1),(sT r.2.2.2.2.1),(dN [] .nil)]) [.cells [(.func 164 [] [(pt 1),(pt 2)])],.cells [(pt 3)],bT c2,.cells [(iI r.2.2.2.2.2),(sC uu),(iI tZ),(iI tY),(.str tX),(sC tW),(sT tV),(sB tU),(sB vi),(iI vh),(iI wi),(.str wc),(sC v8),(sT aq_),(sB v7),(iI vn),(iI vm),(.str vl),(sC vk),(sT vj),(sB arg)]])
def aHu (κ:Out UU->Option S):Int×Int×ByteArray×List Cl×List Tm×Int->Option S:=fun r=>κ (.ret (.agg [(iI r.1),(iI r.2.1),(.str r.2.2.1),(sC r.2.2.2.1),(sT r.2.2.2.2.1),(dN [] .nil)]) [.cells [.int .i64 3,(iI r.2.2.2.2.2)]])
def aHv (nU:List Cl) (oU oT:Int) (o0:ByteArray) (oV:List Cl) (oW:List Tm) (nW q:List (Br Tm)) (uO uX:Int) (uW:ByteArray) (uV:List Cl) (uU:List Tm) (uT:List (Br Tm)) (tT tR:Int) (tQ:ByteArray) (tP:List Cl) (tM:List Tm) (th:List (Br Tm)) (c3:Tm) (κ:Out UU->Option S):List (Br Tm)×Int->Option S:=fun r=>κ (.ret (dN r.1 .full) [.cells [(iI r.2),(sC nU),(iI oU),(iI oT),(.str o0),(sC oV),(sT oW),(sB nW),(sB q),(iI uO),(iI uX),(.str uW),(sC uV),(sT uU),(sB uT),(iI tT),(iI tR),(.str tQ),(sC tP),(sT tM),(sB th)],.cells [(.func 164 [] [(pt 2),(pt 3)])],.cells [(pt 0)],bT c3])
def aHw (c2:Tm) (uu:List Cl) (tZ tY:Int) (tX:ByteArray) (tW:List Cl) (tV:List Tm) (tU vi:List (Br Tm)) (vh wi:Int) (wc:ByteArray) (v8:List Cl) (aq_:List Tm) (v7:List (Br Tm)) (vn vm:Int) (vl:ByteArray) (vk:List Cl) (vj:List Tm) (arg:List (Br Tm)) (κ:Out UU->Option S):(Br Tm)×Int->Option S:=fun r=>κ (.ret (aB r.1) [.cells [(.func 164 [] [(pt 1),(pt 2)])],.cells [(pt 3)],bT c2,.cells [(iI r.2),(sC uu),(iI tZ),(iI tY),(.str tX),(sC tW),(sT tV),(sB tU),(sB vi),(iI vh),(iI wi),(.str wc),(sC v8),(sT aq_),(sB v7),(iI vn),(iI vm),(.str vl),(sC vk),(sT vj),(sB arg)]])
def v' (c2:Tm) (uu:List Cl) (tZ tY:Int) (tX:ByteArray) (tW:List Cl) (tV:List Tm) (tU vi:List (Br Tm)) (vh wi:Int) (wc:ByteArray) (v8:List Cl) (aq_:List Tm) (v7:List (Br Tm)) (vn vm:Int) (vl:ByteArray) (vk:List Cl) (vj:List Tm) (arg:List (Br Tm)) (κ:Out UU->Option S):List (Br Tm)×Int->Option S:=fun r=>κ (.ret (uf r.1) [.cells [(.func 164 [] [(pt 1),(pt 2)])],.cells [(pt 3)],bT c2,.cells [(iI r.2),(sC uu),(iI tZ),(iI tY),(.str tX),(sC tW),(sT tV),(sB tU),(sB vi),(iI vh),(iI wi),(.str wc),(sC v8),(sT aq_),(sB v7),(iI vn),(iI vm),(.str vl),(sC vk),(sT vj),(sB arg)]])
def aHx (nU:List Cl) (oU oT:Int) (o0:ByteArray) (oV:List Cl) (oW:List Tm) (nW q:List (Br Tm)) (uO uX:Int) (uW:ByteArray) (uV:List Cl) (uU:List Tm) (uT:List (Br Tm)) (tT tR:Int) (tQ:ByteArray) (tP:List Cl) (tM:List Tm) (th:List (Br Tm)) (κ:Out UU->Option S):Int×Int×ByteArray×List Tm×List (Br Tm)×Int->Option S:=fun r=>κ (.ret (.agg [(iI r.1),(iI r.2.1),(.str r.2.2.1),(bZ [] .nil),(sT r.2.2.2.1),(sB r.2.2.2.2.1)]) [.cells [(iI r.2.2.2.2.2),(sC nU),(iI oU),(iI oT),(.str o0),(sC oV),(sT oW),(sB nW),(sB q),(iI uO),(iI uX),(.str uW),(sC uV),(sT uU),(sB uT),(iI tT),(iI tR),(.str tQ),(sC tP),(sT tM),(sB th)]])
def aHy (qT:List Cl) (qR qM:Int) (qK:ByteArray) (qJ:List Cl) (qI:List Tm) (qW sM:List (Br Tm)) (rq rO:Int) (rL:ByteArray) (rK:List Cl) (rE:List Tm) (rP:List (Br Tm)) (sK sJ:Int) (sI:ByteArray) (sH:List Cl) (sO:List Tm) (sN:List (Br Tm)) (κ:Out UU->Option S):Int×Int×ByteArray×List Tm×List (Br Tm)×Int->Option S:=fun r=>κ (.ret (.agg [(iI r.1),(iI r.2.1),(.str r.2.2.1),(bZ [] .nil),(sT r.2.2.2.1),(sB r.2.2.2.2.1)]) [.cells [(pt 1)],.cells [(iI r.2.2.2.2.2),(sC qT),(iI qR),(iI qM),(.str qK),(sC qJ),(sT qI),(sB qW),(sB sM),(iI rq),(iI rO),(.str rL),(sC rK),(sT rE),(sB rP),(iI sK),(iI sJ),(.str sI),(sC sH),(sT sO),(sB sN)]])
def p1 (qT:List Cl) (qR qM:Int) (qK:ByteArray) (qJ:List Cl) (qI:List Tm) (qW sM:List (Br Tm)) (rq rO:Int) (rL:ByteArray) (rK:List Cl) (rE:List Tm) (rP:List (Br Tm)) (sK sJ:Int) (sI:ByteArray) (sH:List Cl) (sO:List Tm) (sN:List (Br Tm)) (κ:Out UU->Option S):List Tm×Int->Option S:=fun r=>κ (.ret (frT r.1) [.cells [(pt 1)],.cells [(iI r.2),(sC qT),(iI qR),(iI qM),(.str qK),(sC qJ),(sT qI),(sB qW),(sB sM),(iI rq),(iI rO),(.str rL),(sC rK),(sT rE),(sB rP),(iI sK),(iI sJ),(.str sI),(sC sH),(sT sO),(sB sN)]])
def aCN (qT:List Cl) (qR qM:Int) (qK:ByteArray) (qJ:List Cl) (qI:List Tm) (qW sM:List (Br Tm)) (rq rO:Int) (rL:ByteArray) (rK:List Cl) (rE:List Tm) (rP:List (Br Tm)) (sK sJ:Int) (sI:ByteArray) (sH:List Cl) (sO:List Tm) (sN:List (Br Tm)) (κ:Out UU->Option S):Tm×Int->Option S:=fun r=>κ (.ret (aT r.1) [.cells [(pt 1)],.cells [(iI r.2),(sC qT),(iI qR),(iI qM),(.str qK),(sC qJ),(sT qI),(sB qW),(sB sM),(iI rq),(iI rO),(.str rL),(sC rK),(sT rE),(sB rP),(iI sK),(iI sJ),(.str sI),(sC sH),(sT sO),(sB sN)]])
def aHz (κ:Out UU->Option S):Tm×Int->Option S:=fun r=>κ (.ret (aT r.1) [.cells [.int .i64 1,(iI r.2)]])
def aHA (nU:List Cl) (oU oT:Int) (o0:ByteArray) (oV:List Cl) (oW:List Tm) (nW q:List (Br Tm)) (uO uX:Int) (uW:ByteArray) (uV:List Cl) (uU:List Tm) (uT:List (Br Tm)) (tT tR:Int) (tQ:ByteArray) (tP:List Cl) (tM:List Tm) (th:List (Br Tm)) (κ:Out UU->Option S):List (Br Tm)×Int->Option S:=fun r=>κ (.ret (dN r.1 .full) [.cells [(iI r.2),(sC nU),(iI oU),(iI oT),(.str o0),(sC oV),(sT oW),(sB nW),(sB q),(iI uO),(iI uX),(.str uW),(sC uV),(sT uU),(sB uT),(iI tT),(iI tR),(.str tQ),(sC tP),(sT tM),(sB th)],.cells [(pt 0)]])
def aCO (qT qR:Int) (qM:ByteArray) (qK:List Cl) (qJ:List Tm) (qI qW:List (Br Tm)) (κ:Out UU->Option S):List Tm×Int->Option S:=fun r=>κ (.ret (sT r.1) [.cells [(pt 1)],.cells [(iI r.2),(iI qT),(iI qR),(.str qM),(sC qK),(sT qJ),(sB qI),(sB qW)]])
def MO (nU oU:Int) (oT:ByteArray) (o0:List Cl) (oV:List Tm) (oW nW:List (Br Tm)) (κ:Out UU->Option S):List (Br Tm)×Int->Option S:=fun r=>κ (.ret (sB r.1) [.cells [(iI r.2),(iI nU),(iI oU),(.str oT),(sC o0),(sT oV),(sB oW),(sB nW)],.cells [(pt 0)]])
def aCP (κ:Out UU->Option S):List (Br Tm)×Int->Option S:=fun r=>κ (.ret (sB r.1) [.cells [.int .i64 0,(iI r.2)]])
def e7 (nU oU:Int) (oT:ByteArray) (o0:List Cl) (oV:List Tm) (oW nW:List (Br Tm)) (κ:Out UU->Option S):Int×Int×ByteArray×List Tm×Int->Option S:=fun r=>κ (.ret (.agg [(iI r.1),(iI r.2.1),(.str r.2.2.1),(bZ [] .nil),(sT r.2.2.2.1),(dN [] .nil)]) [.cells [(iI r.2.2.2.2),(iI nU),(iI oU),(.str oT),(sC o0),(sT oV),(sB oW),(sB nW)]])
def aHB (c0:Int) (κ:Out UU->Option S):List Tm->Option S:=fun r=>κ (.ret (sT r) [bI c0])
def qL (nX nU oU:Int) (oT:ByteArray) (o0:List Cl) (oV:List Tm) (oW nW:List (Br Tm)) (c1:Int) (κ:Out UU->Option S):List (Br Tm)->Option S:=fun r=>κ (.ret (sB r) [.cells [(iI nX),(iI nU),(iI oU),(.str oT),(sC o0),(sT oV),(sB oW),(sB nW)],bI c1])
def aHC (uA qT qR:Int) (qM:ByteArray) (qK:List Cl) (qJ:List Tm) (qI qW:List (Br Tm)) (κ:Out UU->Option S):Int×Int×ByteArray×List Tm×List (Br Tm)->Option S:=fun r=>κ (.ret (.tuple [(.agg [(iI r.1),(iI r.2.1),(.str r.2.2.1),(bZ [] .nil),(sT r.2.2.2.1),(dN [] .nil)]),(sB r.2.2.2.2)]) [.cells [(pt 1)],.cells [(iI uA),(iI qT),(iI qR),(.str qM),(sC qK),(sT qJ),(sB qI),(sB qW)]])
def aHD (κ:Out UU->Option S):Int×Int×ByteArray×List Cl×List Tm->Option S:=fun r=>κ (.ret (.agg [(iI r.1),(iI r.2.1),(.str r.2.2.1),(sC r.2.2.2.1),(dO r.2.2.2.2 .full),(dN [] .nil)]) [])
def aHh (nU oU:Int) (oT:ByteArray) (o0:List Cl) (oV:List Tm) (oW nW:List (Br Tm)) (κ:Out UU->Option S):Int×Int×ByteArray×List Tm×List (Br Tm)×Int->Option S:=fun r=>κ (.ret (.agg [(iI r.1),(iI r.2.1),(.str r.2.2.1),(bZ [] .nil),(sT r.2.2.2.1),(sB r.2.2.2.2.1)]) [.cells [(iI r.2.2.2.2.2),(iI nU),(iI oU),(.str oT),(sC o0),(sT oV),(sB oW),(sB nW)]])
def aHi (c1:List (Br Tm)) (κ:Out UU->Option S):(Br Tm)×Int->Option S:=fun r=>κ (.ret (aB r.1) [.cells [(pt 2)],.cells [(sB c1)],bI r.2])
def K2 (c1:List (Br Tm)) (κ:Out UU->Option S):List (Br Tm)×Int->Option S:=fun r=>κ (.ret (uf r.1) [.cells [(pt 2)],.cells [(sB c1)],bI r.2])
def aHj (c1 c2:Tm) (κ:Out UU->Option S):(Br Tm)×Int->Option S:=fun r=>κ (.ret (aB r.1) [.cells [(pt 3)],bT c1,bT c2,bI r.2])
def J1 (c1 c2:Tm) (κ:Out UU->Option S):List (Br Tm)×Int->Option S:=fun r=>κ (.ret (uf r.1) [.cells [(pt 3)],bT c1,bT c2,bI r.2])
def aHk (c0 c1:Tm) (κ:Out UU->Option S):(Br Tm)->Option S:=fun r=>κ (.ret (aB r) [bT c0,bT c1])
def ta (c0 c1:Tm) (κ:Out UU->Option S):List (Br Tm)->Option S:=fun r=>κ (.ret (uf r) [bT c0,bT c1])
def M7 (nX:List Df) (κ:Out UU->Option S):px (Int×Int) (Tm×Bool×Int)->Option S:=fun r=>px.elim r (fun r=>κ (.ret (.tuple [(aT r.1),(.bool r.2.1)]) [.cells [(km nX .none),(iI r.2.2)]])) (fun e=>κ (.panic (.iface 35 (iI e.1)) [.cells [(km nX .none),(iI e.2)]]))
def L2 (nX:List Df) (κ:Out UU->Option S):px (Int×Int) (Tm×Int)->Option S:=fun r=>px.elim r (fun r=>κ (.ret (aT r.1) [.cells [(km nX .none),(iI r.2)]])) (fun e=>κ (.panic (.iface 35 (iI e.1)) [.cells [(km nX .none),(iI e.2)]]))
def aHl (κ:Out UU->Option S):Tm×Int×Int->Option S:=fun r=>κ (.ret (.tuple [(aT r.1),(iI r.2.1),(iI r.2.2)]) [])
def ays (c0:Int) (κ:Out UU->Option S):px Int Tm->Option S:=fun r=>px.elim r (fun r=>κ (.ret (aT r) [bI c0])) (fun e=>κ (.panic (.iface 35 (iI e)) [bI c0]))
def aK2 (κ:Out UU->Option S):px Int Cl->Option S:=fun r=>px.elim r (fun r=>κ (.ret (aC r) [])) (fun e=>κ (.panic (.iface 35 (iI e)) []))
def E9 (nX:List Df) (κ:Out UU->Option S):px (Int×Int) (Bool×Int)->Option S:=fun r=>px.elim r (fun r=>κ (.ret (.bool r.1) [.cells [(km nX .none),(iI r.2)]])) (fun e=>κ (.panic (.iface 35 (iI e.1)) [.cells [(km nX .none),(iI e.2)]]))
def fc (κ:Out UU->Option S):Bool×Int×Int->Option S:=fun r=>κ (.ret (.tuple [(.bool r.1),(iI r.2.1),(iI r.2.2)]) [])
def ch (κ:Out UU->Option S):List Df->Option S:=fun r=>κ (.ret (km r .none) [])
end
end
section
open Go PI _root_.Go.Proofs.Tryz
noncomputable section
variable {S:Type} {o:Obj} (k:Nat)
def F_:Rw S:=aj pW xn fun kind kids Z=>aa k (pg k kind kids) (aE Z)
def mH:Fx S:=fx 8 (fun _=>[]) (fun _=>false) [] [] k f15 true [] 0
theorem eX0 (ho:ai o):Tl o 15 (F_ k:Rw S):=ow (mH k) trivial func15 fun kind kids Z x h=>pz h
def Od:Rw S:=aj dV xn fun kind bU Z=>aa k (gI k kind bU) (aA Z)
def UA:Fx S:=fp 26 [] [] k f126 0
theorem sr (ho:ai o):Tl o 126 (Od k:Rw S):=ow (UA k) trivial func126 fun kind bU Z x h=>pz h
def Pe (hd:du S):Rw S:=aj Ag xn fun t left Z=>hd t left (F9 Z)
def jA (hd:du S) (k:Nat):Rw S:=aj Lh fh fun Dd p q c0 Z=>aa k (uk hd k Dd p q c0) (kT c0 Z)
def V3 (hd:du S) (k:Nat):Fx S:=fp 12 [(55,Pe hd)] [] k f117 1
theorem kc (o:Obj) (ho:ai o) (hd:du S) (Hd:Tl o 55 (Pe hd)) (k:Nat):Tl o 117 (jA hd k:Rw S):=ow (V3 hd k) ⟨Hd,trivial⟩ func117 fun Dd p q c0 Z x h=>pz h
def rX4 (hd:du S) (k:Nat):Rw S:=aj kX5 fh fun t c0 Z=>aa k (DX hd k t c0) (kT c0 Z)
def V_ (hd:du S) (k:Nat):Fx S:=fp 60 [(117,jA hd k),(126,Od k)] [(2,aS [1,2,15,16,17] [(2,6),(1000000,1)],ap 4 5),(12,aS [1,9,40,41,42] [(1000000,1)],ap 7 47),(15,aS [1,9,40,41,42,47,48,49] [(1000000,1)],ap 15 13103)] k f58 1
def azC (c0:Int) (t:Tm) (ox:Int):St UU:=⟨[(1,(.func 117 [] [(pt 1000000)])),(2,(pt 2)),(15,(sT t.c)),(16,(iI t.c.length)),(17,(iI ox))],[(2,bT t),(1000000,bI c0)],[],[]⟩
def p3 (c0:Int) (t:Tm) (oI q:Int):St UU:=⟨[(1,(.func 117 [] [(pt 1000000)])),(9,(iI q)),(40,(sB t.s)),(41,(iI t.s.length)),(42,(iI oI))],[(1000000,bI c0)],[],[]⟩
def aCh (c0:Int) (t:Tm) (oI:Int) (x4:(Br Tm)) (q:Int) (qF:Int):St UU:=⟨[(1,(.func 117 [] [(pt 1000000)])),(9,(iI q)),(40,(sB t.s)),(41,(iI t.s.length)),(42,(iI oI)),(47,(sT x4.c)),(48,(iI x4.c.length)),(49,(iI qF))],[(1000000,bI c0)],[],[]⟩
section
variable (hd:du S) (k:Nat) (t:Tm) (c0:Int) (Z:Out UU->Option S)
theorem aEu (oI x4 q Z1): ∀n qF,(V_ hd k).lp Z 15 [Z1] n (aCh c0 t oI x4 q qF)=SF hd k (kT c0 Z) (fun oI q=>Z1 (p3 c0 t oI q)) c0 t oI x4 q n qF:=cF (yi hd k (kT c0 Z) c0 t oI x4 q (fun oI q=>Z1 (p3 c0 t oI q)))
theorem aEt: ∀n oI q,(V_ hd k).lp Z 12 [] n (p3 c0 t oI q)=jp hd k (kT c0 Z) c0 t n oI q:=aL (fun own=>tp hd k (kT c0 Z) c0 t (fun oI x4 q qF=>SF hd k (kT c0 Z) own c0 t oI x4 q k qF) own) rfl (fun _=>rfl) fun r oI q=>po (b:=tp hd k (kT c0 Z) c0 t (fun oI x4 q qF=>(V_ hd k).lp Z 15 [r] k (aCh c0 t oI x4 q qF)) (fun oI q=>r (p3 c0 t oI q)) oI q) (by kernel_rfl) (by simp only [aEu])
theorem aEs: ∀n ox,(V_ hd k).lp Z 2 [] n (azC c0 t ox)=qS hd k (kT c0 Z) c0 t n ox:=cF (fun own=>tn hd k (kT c0 Z) c0 t (fun oI q=>jp hd k (kT c0 Z) c0 t k oI q) own) rfl (fun _=>rfl) fun r ox=>po (b:=tn hd k (kT c0 Z) c0 t (fun oI q=>(V_ hd k).lp Z 12 [] k (p3 c0 t oI q)) (fun ox=>r (azC c0 t ox)) ox) (by kernel_rfl) (by simp only [aEt])
end
theorem eX4 (o:Obj) (ho:ai o) (hd:du S) (Hd:Tl o 55 (Pe hd)) (k:Nat):Tl o 58 (rX4 hd k:Rw S):=ow (V_ hd k) ⟨kc o ho hd Hd k,sr k ho,trivial⟩ func58 fun t c0 Z x h=>po (b:=IV hd k (kT c0 Z) (fun ox=>(V_ hd k).lp Z 2 [] k (azC c0 t ox)) t c0) (by kernel_rfl) (po (by simp only [aEs];rfl) (al h))
def VF (hd:du S) (k:Nat):Fx S:=fp 12 [(58,rX4 hd k)] [] k f55 0
theorem hX2 (o:Obj) (ho:ai o): ∀k:Nat,Tl o 55 (Pe (jf k:du S))
 |0=>dz fun t left Z x h=>by cases h
 |k+1=>ow (VF (jf k) k) ⟨eX4 o ho (jf k) (hX2 o ho k) k,trivial⟩ func55 fun t left Z x h=>po (by kernel_rfl) h
def PN (hd:Hy S):Rw S:=aj kX6 xX7 fun t c1 Z=>hd t c1 (eJ Z)
def PX (hd:Hy S) (k:Nat):Rw S:=aj kX8 xX9 fun t c0 Z=>aa k (pB hd k t c0) (gf Z)
def mT (hd:Hy S) (k:Nat):Fx S:=fp 14 [(58,PN hd)] [] k f118 2
theorem eX6 (o:Obj) (ho:ai o) (hd:Hy S) (Hd:Tl o 58 (PN hd)) (k:Nat):Tl o 118 (PX hd k:Rw S):=ow (mT hd k) ⟨Hd,trivial⟩ func118 fun t c0 Z x h=>pz h
def Bh (hd:Hy S) (k:Nat):Rw S:=aj Lh xX7 fun Dd p q c1 Z=>aa k (ul hd k Dd p q c1) (eJ Z)
def mU (hd:Hy S) (k:Nat):Fx S:=fp 11 [(118,PX hd k)] [] k f119 2
theorem eX7 (o:Obj) (ho:ai o) (hd:Hy S) (Hd:Tl o 58 (PN hd)) (k:Nat):Tl o 119 (Bh hd k:Rw S):=ow (mU hd k) ⟨eX6 o ho hd Hd k,trivial⟩ func119 fun Dd p q c1 Z x h=>pz h
def Wh (hd:Hy S) (k:Nat):Fx S:=fp 60 [(119,Bh hd k),(126,Od k)] [(2,aS [1,2,15,16,17] [(2,6),(1000000,1),(1000001,1)],ap 4 5),(12,aS [1,9,40,41,42] [(1000000,1),(1000001,1)],ap 7 47),(15,aS [1,9,40,41,42,47,48,49] [(1000000,1),(1000001,1)],ap 15 13103)] k f58 2
def azE (t:Tm) (arm ox:Int):St UU:=⟨[(1,(.func 119 [] [(pt 1000000)])),(2,(pt 2)),(15,(sT t.c)),(16,(iI t.c.length)),(17,(iI ox))],[(2,bT t),(1000000,.cells [(.func 118 [] [(pt 1000001),(pt 1000000)])]),(1000001,bI arm)],[],[]⟩
def kl (t:Tm) (sY oI q:Int):St UU:=⟨[(1,(.func 119 [] [(pt 1000000)])),(9,(iI q)),(40,(sB t.s)),(41,(iI t.s.length)),(42,(iI oI))],[(1000000,.cells [(.func 118 [] [(pt 1000001),(pt 1000000)])]),(1000001,bI sY)],[],[]⟩
def aCm (t:Tm) (oI:Int) (x4:(Br Tm)) (q:Int) (te qF:Int):St UU:=⟨[(1,(.func 119 [] [(pt 1000000)])),(9,(iI q)),(40,(sB t.s)),(41,(iI t.s.length)),(42,(iI oI)),(47,(sT x4.c)),(48,(iI x4.c.length)),(49,(iI qF))],[(1000000,.cells [(.func 118 [] [(pt 1000001),(pt 1000000)])]),(1000001,bI te)],[],[]⟩
section
variable (hd:Hy S) (k:Nat) (t:Tm) (c1:Int) (Z:Out UU->Option S)
theorem aEE (oI x4 q Z1): ∀n te qF,(Wh hd k).lp Z 15 [Z1] n (aCm t oI x4 q te qF)=kL hd k (eJ Z) (fun sY oI q=>Z1 (kl t sY oI q)) t oI x4 q n te qF:=aL (yg hd k (eJ Z) t oI x4 q (fun sY oI q=>Z1 (kl t sY oI q)))
theorem aED: ∀n sY oI q,(Wh hd k).lp Z 12 [] n (kl t sY oI q)=Mp hd k (eJ Z) t n sY oI q:=eW (fun own=>tj hd k (eJ Z) t (fun oI x4 q te qF=>kL hd k (eJ Z) own t oI x4 q k te qF) own) rfl (fun _=>rfl) fun r sY oI q=>po (b:=tj hd k (eJ Z) t (fun oI x4 q te qF=>(Wh hd k).lp Z 15 [r] k (aCm t oI x4 q te qF)) (fun sY oI q=>r (kl t sY oI q)) sY oI q) (by kernel_rfl) (by simp only [aEE])
theorem aEC: ∀n arm ox,(Wh hd k).lp Z 2 [] n (azE t arm ox)=nY hd k (eJ Z) t n arm ox:=aL (fun own=>ti hd k (eJ Z) t (fun sY oI q=>Mp hd k (eJ Z) t k sY oI q) own) rfl (fun _=>rfl) fun r arm ox=>po (b:=ti hd k (eJ Z) t (fun sY oI q=>(Wh hd k).lp Z 12 [] k (kl t sY oI q)) (fun arm ox=>r (azE t arm ox)) arm ox) (by kernel_rfl) (by simp only [aED])
end
theorem hX5 (o:Obj) (ho:ai o): ∀k:Nat,Tl o 58 (PN (KY k:Hy S))
 |0=>dz fun t c1 Z x h=>by cases h
 |k+1=>ow (Wh (KY k) k) ⟨eX7 o ho (KY k) (hX5 o ho k) k,sr k ho,trivial⟩ func58 fun t c1 Z x h=>po (b:=IT (KY k) k (eJ Z) (fun arm ox=>(Wh (KY k) k).lp Z 2 [] k (azE t arm ox)) t c1) (by kernel_rfl) (po (by simp only [aEC];rfl) h)
def GR:Rw S:=aj Ag xn fun t ov Z=>aa k (zE k t ov) (F9 Z)
def WI:Fx S:=fp 10 [(118,PX (KY k) k)] [] k f56 0
theorem Kw (ho:ai o):Tl o 56 (GR k:Rw S):=ow (WI k) ⟨eX6 o ho (KY k) (hX5 o ho k) k,trivial⟩ func56 fun t ov Z x h=>pz h
def Qg:Rw S:=aj EA xn fun t Z=>aa k (zD k t) (da Z)
def WO:Fx S:=fp 11 [(55,Pe (jf k)),(56,GR k)] [] k f25 0
theorem eX9 (ho:ai o):Tl o 25 (Qg k:Rw S):=ow (WO k) ⟨hX2 o ho k,Kw k ho,trivial⟩ func25 fun t Z x h=>pz h
def Oe:Rw S:=aj Mr xn fun kind Z=>aa k (zA k kind) (da Z)
def UB:Fx S:=fp 38 [] [] k f120 0
theorem aat (ho:ai o):Tl o 120 (Oe k:Rw S):=ow (UB k) trivial func120 fun kind Z x h=>pz h
def Ol:Rw S:=aj Mr xn fun kind Z=>aa k (lJ k kind) (da Z)
def UI:Fx S:=fp 10 [] [] k f121 0
theorem aaA (ho:ai o):Tl o 121 (Ol k:Rw S):=ow (UI k) trivial func121 fun kind Z x h=>pz h
def Ov:Rw S:=aj Ld xn fun s Z=>aa k (zC k s) (F9 Z)
def UO:Fx S:=fp 49 [] [(2,aS [0,7,8] [],ap 4 5),(1000006,aS [0,3,4,5,7,8] [],ap 12 3685)] k f122 0
def hK (s:ByteArray) (q:Int):St UU:=⟨[(0,(.str s)),(7,(.int .i64 (s.size:Int))),(8,(iI q))],[],[],[]⟩
def aBH (s:ByteArray) (x:Int) (x1:UInt8) (q:Bool):St UU:=⟨[(0,(.str s)),(3,(iI x)),(4,(.int .u8 (x1.toNat:Int))),(5,(.bool q)),(7,(.int .i64 (s.size:Int))),(8,(iI x))],[],[],[]⟩
section
variable (k:Nat) (s:ByteArray) (Z:Out UU->Option S)
theorem aDK (x x1 Z0): ∀n q,(UO k).jn Z 1000006 [Z0] n (aBH s x x1 q)=Aq k (F9 Z) (fun x=>Z0 (hK s x)) s x x1 n q:=nx (Dk k (F9 Z) s x x1 (fun x=>Z0 (hK s x)))
theorem aDJ: ∀n x,(UO k).lp Z 2 [] n (hK s x)=n7 k (F9 Z) s n x:=cF (fun own=>tv k (F9 Z) s (fun x x1 q=>Aq k (F9 Z) own s x x1 k q) own) rfl (fun _=>rfl) fun r x=>po (b:=tv k (F9 Z) s (fun x x1 q=>(UO k).jn Z 1000006 [r] k (aBH s x x1 q)) (fun x=>r (hK s x)) x) (by kernel_rfl) (by simp only [aDK])
end
theorem aaH (ho:ai o):Tl o 122 (Ov k:Rw S):=ow (UO k) trivial func122 fun s Z x h=>po (b:=IY k (F9 Z) (fun q=>(UO k).lp Z 2 [] k (hK s q)) s) (by kernel_rfl) (po (by simp only [aDJ];rfl) (al h))
def OC:Rw S:=aj uG xn fun s Z=>aa k (pm k s) (F9 Z)
def UX:Fx S:=fp 6 [] [] k f229 0
theorem aaO (ho:ai o):Tl o 229 (OC k:Rw S):=ow (UX k) trivial func229 fun s Z x h=>pz h
def OM:Rw S:=aj ny xn fun c Z=>aa k (tC k c) (F9 Z)
def rU:Fx S:=fp 11 [(229,OC k)] [] k f184 0
theorem aaY (ho:ai o):Tl o 184 (OM k:Rw S):=ow (rU k) ⟨aaO k ho,trivial⟩ func184 fun c Z x h=>pz h
def OU:Rw S:=aj uH xn fun a b Z=>aa k (pb k a b) (Oa Z)
def Vb:Fx S:=fp 16 [] [] k f191 0
theorem aa6 (ho:ai o):Tl o 191 (OU k:Rw S):=ow (Vb k) trivial func191 fun a b Z x h=>pz h
def Gn:Rw S:=aj uH xn fun a b Z=>aa k (yA k a b) (F9 Z)
def Vg:Fx S:=fp 10 [(191,OU k)] [] k f210 0
theorem J7 (ho:ai o):Tl o 210 (Gn k:Rw S):=ow (Vg k) ⟨aa6 k ho,trivial⟩ func210 fun a b Z x h=>pz h
def A7:Rw S:=aj EU wC fun d c0 Z=>aa k (yC k d c0) (Oc c0 Z)
def Vn:Fx S:=fp 12 [(210,Gn k)] [] k f209 1
theorem Eb (ho:ai o):Tl o 209 (A7 k:Rw S):=ow (Vn k) ⟨J7 k ho,trivial⟩ func209 fun d c0 Z x h=>pz h
def O5:Rw S:=aj Le wC fun s c0 Z=>aa k (DV k s c0) (A1 c0 Z)
def Vr:Fx S:=fp 19 [(209,A7 k)] [(2,aS [0,1,7,8] [(1000000,2)],ap 4 5)] k f214 1
def aBP (c0:Cl) (s:List Cl) (q:Int):St UU:=⟨[(0,(sC s)),(1,(.func 209 [] [(pt 1000000)])),(7,(iI s.length)),(8,(iI q))],[(1000000,bC c0)],[],[]⟩
section
variable (k:Nat) (s:List Cl) (c0:Cl) (Z:Out UU->Option S)
theorem aDS: ∀n q,(Vr k).lp Z 2 [] n (aBP c0 s q)=qO k (A1 c0 Z) c0 s n q:=cF (yc k (A1 c0 Z) c0 s)
end
theorem abg (ho:ai o):Tl o 214 (O5 k:Rw S):=ow (Vr k) ⟨Eb k ho,trivial⟩ func214 fun s c0 Z x h=>po (b:=IM k (A1 c0 Z) (fun q=>(Vr k).lp Z 2 [] k (aBP c0 s q)) s c0) (by kernel_rfl) (po (by simp only [aDS];rfl) (al h))
def O9:Rw S:=aj Le wC fun s c0 Z=>aa k (DT k s c0) (Oc c0 Z)
def Vx:Fx S:=fp 9 [(214,O5 k)] [] k f174 1
theorem abk (ho:ai o):Tl o 174 (O9 k:Rw S):=ow (Vx k) ⟨abg k ho,trivial⟩ func174 fun s c0 Z x h=>pz h
def Pf:Rw S:=aj EU alt fun c c0 Z=>aa k (yB k c c0) (ahX c0 Z)
def CK:Fx S:=fp 7 [(174,O9 k)] [] k f208 1
theorem abr (ho:ai o):Tl o 208 (Pf k:Rw S):=ow (CK k) ⟨abk k ho,trivial⟩ func208 fun c c0 Z x h=>pz h
def Pp:Rw S:=aj eo xn fun l Z=>aa k (gy k l) (ub Z)
def VK:Fx S:=fx 55 (fun _=>[]) (fun|53=>true|_=>false) [(184,OM k),(208,Pf k)] [(4,⟨[(4,nP),(5,nP),(13,nP),(14,nP),(15,nP)],[(5,[qn 200320]),(12,[])]⟩,ap 6 23),(15,⟨[(8,nP),(9,qn 100009),(34,nP),(35,nP),(36,nP)],[(5,[nP])]⟩,ap 9 191)] k f172 false [] 0
def azx (l:List Cl) (x:List (Cl×Bool)) (q:List Cl) (z:Int):St UU:=⟨[(4,(.mp 12)),(5,(pt 5)),(13,(sC l)),(14,(iI l.length)),(15,(iI z))],[(5,.cells [(.own 200320 0)]),(12,.map ET.C x)],[(200320,⟨0,ET.C,q⟩)],[(200320,.wr)]⟩
def aBS (q:List Cl) (H5:Int) (x:List Cl):St UU:=⟨[(8,(.func 208 [] [(pt 5)])),(9,(.own 100009 0)),(34,(sC q)),(35,(iI q.length)),(36,(iI H5))],[(5,.cells [(sC q)])],[(100009,⟨0,ET.C,x⟩)],[(100009,.wr)]⟩
section
variable (k:Nat) (l:List Cl) (Z:Out UU->Option S)
theorem aDW (q): ∀n H5 x,(VK k).lp Z 15 [] n (aBS q H5 x)=nz k (ub Z) q n H5 x:=aL (wM k (ub Z) q)
theorem aDV: ∀n z q A,(VK k).lp Z 4 [] n (azx l z q A)=pZ k (ub Z) l n z q A:=eW (fun own=>gk k (ub Z) l (fun q H5 x=>nz k (ub Z) q k H5 x) own) rfl (fun _=>rfl) fun r z q A=>po (b:=gk k (ub Z) l (fun q H5 x=>(VK k).lp Z 15 [] k (aBS q H5 x)) (fun z q A=>r (azx l z q A)) z q A) (by kernel_rfl) (by simp only [aDW])
end
theorem M1 (ho:ai o):Tl o 172 (Pp k:Rw S):=ow (VK k) ⟨aaY k ho,abr k ho,trivial⟩ func172 fun l Z x h=>po (b:=Hw k (ub Z) (fun z q A=>(VK k).lp Z 4 [] k (azx l z q A)) l) (by kernel_rfl) (po (by simp only [aDV];rfl) (al h))
def Pu:Rw S:=aj jk xn fun s1 s2 Z=>aa k (zz k s1 s2) (F9 Z)
def VS:Fx S:=fp 26 [] [(4,aS [0,1,12,13] [],ap 5 11)] k f31 0
def aBW (s1 s2:List Cl) (q:Int):St UU:=⟨[(0,(sC s1)),(1,(sC s2)),(12,(iI s1.length)),(13,(iI q))],[],[],[]⟩
section
variable (k:Nat) (s1 s2:List Cl) (Z:Out UU->Option S)
theorem aD0: ∀n q,(VS k).lp Z 4 [] n (aBW s1 s2 q)=qN k (F9 Z) s1 s2 n q:=cF (yb k (F9 Z) s1 s2)
end
theorem qt (ho:ai o):Tl o 31 (Pu k:Rw S):=ow (VS k) trivial func31 fun s1 s2 Z x h=>po (b:=IL k (F9 Z) (fun q=>(VS k).lp Z 4 [] k (aBW s1 s2 q)) s1 s2) (by kernel_rfl) (po (by simp only [aD0];rfl) (al h))
def jz:Rw S:=aj eo xn fun f Z=>aa k (hY k f) (F9 Z)
def anH:Fx S:=fp 17 [(31,Pu k),(172,Pp k)] [] k f123 0
theorem j_ (ho:ai o):Tl o 123 (jz k:Rw S):=ow (anH k) ⟨qt k ho,M1 k ho,trivial⟩ func123 fun f Z x h=>pz h
def PE:Rw S:=aj Mr xn fun i Z=>aa k (nd k i) (F9 Z)
def CU:Fx S:=fp 9 [] [] k f238 0
theorem k2 (ho:ai o):Tl o 238 (PE k:Rw S):=ow (CU k) trivial func238 fun i Z x h=>pz h
def Al:Rw S:=aj lS xn fun s i Z=>aa k (jX k s i) (b_ Z)
def VZ:Fx S:=fp 16 [(238,PE k)] [] k f213 0
theorem pL (ho:ai o):Tl o 213 (Al k:Rw S):=ow (VZ k) ⟨k2 k ho,trivial⟩ func213 fun s i Z x h=>pz h
def vL:Rw S:=aj eo xn fun f Z=>aa k (A' k f) (b_ Z)
def V0:Fx S:=fp 22 [(213,Al k)] [(3,aS [3,6,7,8] [],ap 5 11)] k f173 0
def aB8 (f:List Cl) (q x:Int):St UU:=⟨[(3,(iU q)),(6,(sC f)),(7,(iI f.length)),(8,(iI x))],[],[],[]⟩
section
variable (k:Nat) (f:List Cl) (Z:Out UU->Option S)
theorem aEc: ∀n q x,(V0 k).lp Z 3 [] n (aB8 f q x)=qb k (b_ Z) f n q x:=aL (wY k (b_ Z) f)
end
theorem zN (ho:ai o):Tl o 173 (vL k:Rw S):=ow (V0 k) ⟨pL k ho,trivial⟩ func173 fun f Z x h=>po (b:=HL k (b_ Z) (fun q z=>(V0 k).lp Z 3 [] k (aB8 f q z)) f) (by kernel_rfl) (po (by simp only [aEc];rfl) (al h))
def Ba:Rw S:=aj EV xn fun f nV Z=>aa k (lK k f nV) (F9 Z)
def V1:Fx S:=fp 15 [(173,vL k)] [] k f124 0
theorem Ef (ho:ai o):Tl o 124 (Ba k:Rw S):=ow (V1 k) ⟨zN k ho,trivial⟩ func124 fun f nV Z x h=>pz h
def Bb:Rw S:=aj ny xn fun c Z=>aa k (tB k c) (F9 Z)
def CV:Fx S:=fp 9 [] [] k f175 0
theorem Eg (ho:ai o):Tl o 175 (Bb k:Rw S):=ow (CV k) trivial func175 fun c Z x h=>pz h
def PF:Rw S:=aj Lf xn fun s Z=>aa k (DW k s) (da Z)
def V2:Fx S:=fp 19 [(175,Bb k)] [(2,aS [0,1,7,8] [],ap 4 5)] k f214 0
def aB9 (s:List Cl) (q:Int):St UU:=⟨[(0,(sC s)),(1,(.func 175 [] [])),(7,(iI s.length)),(8,(iI q))],[],[],[]⟩
section
variable (k:Nat) (s:List Cl) (Z:Out UU->Option S)
theorem aEd: ∀n q,(V2 k).lp Z 2 [] n (aB9 s q)=qP k (da Z) s n q:=cF (yd k (da Z) s)
end
theorem abR (ho:ai o):Tl o 214 (PF k:Rw S):=ow (V2 k) ⟨Eg k ho,trivial⟩ func214 fun s Z x h=>po (b:=IN k (da Z) (fun q=>(V2 k).lp Z 2 [] k (aB9 s q)) s) (by kernel_rfl) (po (by simp only [aEd];rfl) (al h))
def GH:Rw S:=aj Lf xn fun s Z=>aa k (DU k s) (F9 Z)
def V4:Fx S:=fp 9 [(214,PF k)] [] k f174 0
theorem Kl (ho:ai o):Tl o 174 (GH k:Rw S):=ow (V4 k) ⟨abR k ho,trivial⟩ func174 fun s Z x h=>pz h
def PG:Rw S:=aj eo xn fun f Z=>aa k (pd k f) (F9 Z)
def CW:Fx S:=fp 10 [(123,jz k),(174,GH k)] [] k f125 0
theorem hG (ho:ai o):Tl o 125 (PG k:Rw S):=ow (CW k) ⟨j_ k ho,Kl k ho,trivial⟩ func125 fun f Z x h=>pz h
def PH:Rw S:=aj r0 xn fun t vars nV Z=>aa k (uj k t vars nV) (F9 Z)
def V5:Fx S:=fp 138 [(120,Oe k),(121,Ol k),(122,Ov k),(123,jz k),(124,Ba k),(125,PG k)] [(1000003,aS [1,2,3] [(3,6)],ap 2 3),(15,aS [2,3,107,108,109] [(3,6)],ap 6 23)] k f57 0
def aB_ (t:Tm) (vars nV:Int):St UU:=⟨[(1,(iI vars)),(2,(iI nV)),(3,(pt 3))],[(3,bT t)],[],[]⟩
def aCa (t:Tm) (nV:Int) (v109:Int):St UU:=⟨[(2,(iI nV)),(3,(pt 3)),(107,(sB t.s)),(108,(iI t.s.length)),(109,(iI v109))],[(3,bT t)],[],[]⟩
section
variable (k:Nat) (t:Tm) (vars nV:Int) (Z:Out UU->Option S)
theorem aEf: ∀n v109,(V5 k).lp Z 15 [] n (aCa t nV v109)=kO k (F9 Z) t nV n v109:=cF (yl k (F9 Z) t nV)
theorem aEe: ∀n,(V5 k).jn Z 1000003 [] n (aB_ t vars nV)=Ar k (F9 Z) t vars nV n:=gL (tw k (F9 Z) t vars nV (fun v109=>kO k (F9 Z) t nV k v109)) rfl (fun _=>rfl) (po (b:=tw k (F9 Z) t vars nV (fun v109=>(V5 k).lp Z 15 [] k (aCa t nV v109))) (by kernel_rfl) (by simp only [aEf]))
end
theorem abT (ho:ai o):Tl o 57 (PH k:Rw S):=ow (V5 k) ⟨aat k ho,aaA k ho,aaH k ho,j_ k ho,Ef k ho,hG k ho,trivial⟩ func57 fun t vars nV Z x h=>po (b:=IZ k (F9 Z) ((V5 k).jn Z 1000003 [] k (aB_ t vars nV)) t vars nV) (by kernel_rfl) (po (by simp only [aEe];rfl) (al h))
def GI (hd:dr S):Rw S:=aj Lg xn fun t vars nV bound Z=>hd t vars nV bound (F9 Z)
def PJ (hd:dr S) (k:Nat):Rw S:=aj adA Ut fun Dd v d c0 c1 c2 Z=>aa k (uh hd k Dd v d c0 c1 c2) (gc c0 c1 c2 Z)
def aRx (hd:dr S) (k:Nat):Fx S:=fp 21 [(26,GI hd)] [] k f59 3
theorem abU (o:Obj) (ho:ai o) (hd:dr S) (Hd:Tl o 26 (GI hd)) (k:Nat):Tl o 59 (PJ hd k:Rw S):=ow (aRx hd k) ⟨Hd,trivial⟩ func59 fun Dd v d c0 c1 c2 Z x h=>pz h
def vM (hd:dr S) (k:Nat):Rw S:=aj adB Ut fun t c0 c1 c2 Z=>aa k (zB hd k t c0 c1 c2) (gc c0 c1 c2 Z)
def V7 (hd:dr S) (k:Nat):Fx S:=fp 60 [(59,PJ hd k),(126,Od k)] [(2,aS [1,2,15,16,17] [(2,6),(1000000,1),(1000001,1),(1000002,1)],ap 4 5),(12,aS [1,9,40,41,42] [(1000000,1),(1000001,1),(1000002,1)],ap 7 47),(15,aS [1,9,40,41,42,47,48,49] [(1000000,1),(1000001,1),(1000002,1)],ap 15 13103)] k f58 3
def azz (c0 c1:Int) (c2:Bool) (t:Tm) (ox:Int):St UU:=⟨[(1,(.func 59 [] [(pt 1000000),(pt 1000001),(pt 1000002)])),(2,(pt 2)),(15,(sT t.c)),(16,(iI t.c.length)),(17,(iI ox))],[(2,bT t),(1000000,bI c0),(1000001,bI c1),(1000002,.cells [(.bool c2)])],[],[]⟩
def im (c0 c1:Int) (c2:Bool) (t:Tm) (oI q:Int):St UU:=⟨[(1,(.func 59 [] [(pt 1000000),(pt 1000001),(pt 1000002)])),(9,(iI q)),(40,(sB t.s)),(41,(iI t.s.length)),(42,(iI oI))],[(1000000,bI c0),(1000001,bI c1),(1000002,.cells [(.bool c2)])],[],[]⟩
def aCb (c0 c1:Int) (c2:Bool) (t:Tm) (oI:Int) (x4:(Br Tm)) (q:Int) (qF:Int):St UU:=⟨[(1,(.func 59 [] [(pt 1000000),(pt 1000001),(pt 1000002)])),(9,(iI q)),(40,(sB t.s)),(41,(iI t.s.length)),(42,(iI oI)),(47,(sT x4.c)),(48,(iI x4.c.length)),(49,(iI qF))],[(1000000,bI c0),(1000001,bI c1),(1000002,.cells [(.bool c2)])],[],[]⟩
section
variable (hd:dr S) (k:Nat) (t:Tm) (c0 c1:Int) (c2:Bool) (Z:Out UU->Option S)
theorem aEi (oI x4 q Z1): ∀n qF,(V7 hd k).lp Z 15 [Z1] n (aCb c0 c1 c2 t oI x4 q qF)=mi hd k (gc c0 c1 c2 Z) (fun oI q=>Z1 (im c0 c1 c2 t oI q)) c0 c1 c2 t oI x4 q n qF:=cF (yh hd k (gc c0 c1 c2 Z) c0 c1 c2 t oI x4 q (fun oI q=>Z1 (im c0 c1 c2 t oI q)))
theorem aEh: ∀n oI q,(V7 hd k).lp Z 12 [] n (im c0 c1 c2 t oI q)=iC hd k (gc c0 c1 c2 Z) c0 c1 c2 t n oI q:=aL (fun own=>tl hd k (gc c0 c1 c2 Z) c0 c1 c2 t (fun oI x4 q qF=>mi hd k (gc c0 c1 c2 Z) own c0 c1 c2 t oI x4 q k qF) own) rfl (fun _=>rfl) fun r oI q=>po (b:=tl hd k (gc c0 c1 c2 Z) c0 c1 c2 t (fun oI x4 q qF=>(V7 hd k).lp Z 15 [r] k (aCb c0 c1 c2 t oI x4 q qF)) (fun oI q=>r (im c0 c1 c2 t oI q)) oI q) (by kernel_rfl) (by simp only [aEi])
theorem aEg: ∀n ox,(V7 hd k).lp Z 2 [] n (azz c0 c1 c2 t ox)=nZ hd k (gc c0 c1 c2 Z) c0 c1 c2 t n ox:=cF (fun own=>tk hd k (gc c0 c1 c2 Z) c0 c1 c2 t (fun oI q=>iC hd k (gc c0 c1 c2 Z) c0 c1 c2 t k oI q) own) rfl (fun _=>rfl) fun r ox=>po (b:=tk hd k (gc c0 c1 c2 Z) c0 c1 c2 t (fun oI q=>(V7 hd k).lp Z 12 [] k (im c0 c1 c2 t oI q)) (fun ox=>r (azz c0 c1 c2 t ox)) ox) (by kernel_rfl) (by simp only [aEh])
end
theorem aFF (o:Obj) (ho:ai o) (hd:dr S) (Hd:Tl o 26 (GI hd)) (k:Nat):Tl o 58 (vM hd k:Rw S):=ow (V7 hd k) ⟨abU o ho hd Hd k,sr k ho,trivial⟩ func58 fun t c0 c1 c2 Z x h=>po (b:=IU hd k (gc c0 c1 c2 Z) (fun ox=>(V7 hd k).lp Z 2 [] k (azz c0 c1 c2 t ox)) t c0 c1 c2) (by kernel_rfl) (po (by simp only [aEg];rfl) (al h))
def V6 (hd:dr S) (k:Nat):Fx S:=fp 24 [(57,PH k),(58,vM hd k)] [] k f26 0
theorem azl (o:Obj) (ho:ai o): ∀k:Nat,Tl o 26 (GI (ic k:dr S))
 |0=>dz fun t vars nV bound Z x h=>by cases h
 |k+1=>ow (V6 (ic k) k) ⟨abT k ho,aFF o ho (ic k) (azl o ho k) k,trivial⟩ func26 fun t vars nV bound Z x h=>po (by kernel_rfl) h
def PK:Rw S:=aj EA xn fun t Z=>aa k (DS k t) (da Z)
def V8:Fx S:=fp 12 [(25,Qg k),(26,GI (ic k))] [] k f14 0
theorem HN (ho:ai o):Tl o 14 (PK k:Rw S):=ow (V8 k) ⟨eX9 k ho,azl o ho k,trivial⟩ func14 fun t Z x h=>pz h
def PL (hd:eP S):Rw S:=aj EA xn fun t Z=>hd t (aF Z)
def iJ (hd:eP S) (k:Nat):Rw S:=aj EW xn fun l Z=>aa k (ui hd k l) (AN Z)
def V9 (hd:eP S) (k:Nat):Fx S:=fp 19 [(34,PL hd)] [(3,⟨[(3,qn 100003),(6,nP),(7,nP),(8,nP)],[]⟩,ap 5 11)] k f80 0
def aCc (l:List Tm) (q:List Tm) (x:Int):St UU:=⟨[(3,(.own 100003 0)),(6,(sT l)),(7,(iI l.length)),(8,(iI x))],[],[(100003,⟨0,ET.T,q⟩)],[(100003,.wr)]⟩
section
variable (hd:eP S) (k:Nat) (l:List Tm) (Z:Out UU->Option S)
theorem aEj: ∀n q x,(V9 hd k).lp Z 3 [] n (aCc l q x)=k6 hd k (AN Z) l n q x:=aL (yf hd k (AN Z) l)
end
theorem jh (o:Obj) (ho:ai o) (hd:eP S) (Hd:Tl o 34 (PL hd)) (k:Nat):Tl o 80 (iJ hd k:Rw S):=ow (V9 hd k) ⟨Hd,trivial⟩ func80 fun l Z x h=>po (b:=IS hd k (AN Z) (fun q z=>(V9 hd k).lp Z 3 [] k (aCc l q z)) l) (by kernel_rfl) (po (by simp only [aEj];rfl) (al h))
def mS (hd:eP S) (k:Nat):Fx S:=fp 40 [(79,G2),(80,iJ hd k)] [(3,⟨[(2,nP),(3,nP),(20,nP),(21,nP),(22,nP)],[(2,[nP,nP,nP,qn 200131,qn 200132,qn 200133]),(3,[nP,nP,nP,nP,nP,qn 200197])]⟩,ap 5 11)] k f34 0
def FH (t:Tm) (r1:List Cl) (r2:List Tm) (q:List (Br Tm)) (v22:Int):St UU:=⟨[(2,(pt 2)),(3,(pt 3)),(20,(sB t.s)),(21,(iI t.s.length)),(22,(iI v22))],[(2,.cells [(iI 0),(iI 0),zu,(.own 200131 0),(.own 200132 0),(.own 200133 0)]),(3,.cells [(iI t.k),(iI t.n),(.str t.name),(sC r1),(sT r2),(.own 200197 0)])],[(200197,⟨0,ET.B,q⟩),(200133,xO),(200132,zm),(200131,xX)],[(200197,.wr),(200133,.wr),(200132,.wr),(200131,.wr)]⟩
section
variable (hd:eP S) (k:Nat) (t:Tm) (Z:Out UU->Option S)
theorem YS (r1 r2): ∀n q v22,(mS hd k).lp Z 3 [] n (FH t r1 r2 q v22)=qQ hd k (aF Z) t r1 r2 n q v22:=aL (ye hd k (aF Z) t r1 r2)
end
theorem IG (o:Obj) (ho:ai o): ∀k:Nat,Tl o 34 (PL (dJ k:eP S))
 |0=>dz fun t Z x h=>by cases h
 |k+1=>ow (mS (dJ k) k) ⟨akS o ho,jh o ho (dJ k) (IG o ho k) k,trivial⟩ func34 fun t Z x h=>po (b:=IP (dJ k) k (aF Z) (fun r1 z q v22=>(mS (dJ k) k).lp Z 3 [] k (FH t r1 z q v22)) t) (by kernel_rfl) (po (by simp only [YS];rfl) h)
def aHL:Rw S:=aj EX fh fun c0 Z=>aa k (dG k c0) (kT c0 Z)
def IE:Rw S:=aj EX fh fun c0 Z=>aa k (dG k c0) (F9 Z)
def CX:Fx S:=fp 8 [] [] k f82 1
theorem aFG (ho:ai o):Tl o 82 (aHL k:Rw S):=ow (CX k) trivial func82 fun c0 Z x h=>pz h
theorem KX (ho:ai o):Tl o 82 (IE k:Rw S):=tlS (aFG k ho) fun c0 Z x h=>po (b:=aa k (dG k c0) (kT c0 (DB _ Z))) (by kernel_rfl) (po (congrArg (aa k (dG k c0)) (funext fun r=>if_pos rfl)) h)
def PM (hd:dq S):Rw S:=aj EA xn fun t Z=>hd t (da Z)
def jB (hd:dq S) (k:Nat):Rw S:=aj Lh fh fun Dd p q c0 Z=>aa k (ug hd k Dd p q c0) (N7 Z)
def Wa (hd:dq S) (k:Nat):Fx S:=fp 12 [(150,PM hd)] [] k f197 1
theorem ke (o:Obj) (ho:ai o) (hd:dq S) (Hd:Tl o 150 (PM hd)) (k:Nat):Tl o 197 (jB hd k:Rw S):=ow (Wa hd k) ⟨Hd,trivial⟩ func197 fun Dd p q c0 Z x h=>pz h
def Bc (hd:dq S) (k:Nat):Rw S:=aj adC fh fun t c0 Z=>aa k (DY hd k t c0) (N7 Z)
def Sx (hd:dq S) (k:Nat):Fx S:=fp 60 [(126,Od k),(197,jB hd k)] [(2,aS [1,2,15,16,17] [(2,6),(1000000,1)],ap 4 5),(12,aS [1,9,40,41,42] [(1000000,1)],ap 7 47),(15,aS [1,9,40,41,42,47,48,49] [(1000000,1)],ap 15 13103)] k f58 1
def azA (t:Tm) (q ox:Int):St UU:=⟨[(1,(.func 197 [] [(pt 1000000)])),(2,(pt 2)),(15,(sT t.c)),(16,(iI t.c.length)),(17,(iI ox))],[(2,bT t),(1000000,bI q)],[],[]⟩
def fg (t:Tm) (qw oI q:Int):St UU:=⟨[(1,(.func 197 [] [(pt 1000000)])),(9,(iI q)),(40,(sB t.s)),(41,(iI t.s.length)),(42,(iI oI))],[(1000000,bI qw)],[],[]⟩
def aCd (t:Tm) (oI:Int) (x4:(Br Tm)) (q:Int) (qE qF:Int):St UU:=⟨[(1,(.func 197 [] [(pt 1000000)])),(9,(iI q)),(40,(sB t.s)),(41,(iI t.s.length)),(42,(iI oI)),(47,(sT x4.c)),(48,(iI x4.c.length)),(49,(iI qF))],[(1000000,bI qE)],[],[]⟩
section
variable (hd:dq S) (k:Nat) (t:Tm) (c0:Int) (Z:Out UU->Option S)
theorem aEm (oI x4 q Z1): ∀n qE qF,(Sx hd k).lp Z 15 [Z1] n (aCd t oI x4 q qE qF)=n4 hd k (N7 Z) (fun qw oI q=>Z1 (fg t qw oI q)) t oI x4 q n qE qF:=aL (yj hd k (N7 Z) t oI x4 q (fun qw oI q=>Z1 (fg t qw oI q)))
theorem aEl: ∀n qw oI q,(Sx hd k).lp Z 12 [] n (fg t qw oI q)=kM hd k (N7 Z) t n qw oI q:=eW (fun own=>tr hd k (N7 Z) t (fun oI x4 q qE qF=>n4 hd k (N7 Z) own t oI x4 q k qE qF) own) rfl (fun _=>rfl) fun r qw oI q=>po (b:=tr hd k (N7 Z) t (fun oI x4 q qE qF=>(Sx hd k).lp Z 15 [r] k (aCd t oI x4 q qE qF)) (fun qw oI q=>r (fg t qw oI q)) qw oI q) (by kernel_rfl) (by simp only [aEm])
theorem aEk: ∀n x ox,(Sx hd k).lp Z 2 [] n (azA t x ox)=gb hd k (N7 Z) t n x ox:=aL (fun own=>tq hd k (N7 Z) t (fun qw oI q=>kM hd k (N7 Z) t k qw oI q) own) rfl (fun _=>rfl) fun r x ox=>po (b:=tq hd k (N7 Z) t (fun qw oI q=>(Sx hd k).lp Z 12 [] k (fg t qw oI q)) (fun x ox=>r (azA t x ox)) x ox) (by kernel_rfl) (by simp only [aEl])
end
theorem Eh (o:Obj) (ho:ai o) (hd:dq S) (Hd:Tl o 150 (PM hd)) (k:Nat):Tl o 58 (Bc hd k:Rw S):=ow (Sx hd k) ⟨sr k ho,ke o ho hd Hd k,trivial⟩ func58 fun t c0 Z x h=>po (b:=IW hd k (N7 Z) (fun q ox=>(Sx hd k).lp Z 2 [] k (azA t q ox)) t c0) (by kernel_rfl) (po (by simp only [aEk];rfl) (al h))
def CY (hd:dq S) (k:Nat):Fx S:=fp 8 [(58,Bc hd k)] [] k f150 0
theorem aBg (o:Obj) (ho:ai o): ∀k:Nat,Tl o 150 (PM (j6 k:dq S))
 |0=>dz fun t Z x h=>by cases h
 |k+1=>ow (CY (j6 k) k) ⟨Eh o ho (j6 k) (aBg o ho k) k,trivial⟩ func150 fun t Z x h=>po (by kernel_rfl) h
def GJ (hd:fK S):Rw S:=aj Ag xn fun t qu Z=>hd t qu (da Z)
def Wc (hd:fK S) (k:Nat):Fx S:=fp 68 [(126,Od k),(151,GJ hd)] [(1000003,aS [1,2] [(2,6)],ap 2 3),(5,aS [1,2,5,24,25,26] [(2,6)],ap 6 23),(11,aS [1,5,47,48,49] [],ap 7 47),(14,aS [1,5,47,48,49,54,55,56] [],ap 15 13103)] k f151 0
def aCe (t:Tm) (qu:Int):St UU:=⟨[(1,(iI qu)),(2,(pt 2))],[(2,bT t)],[],[]⟩
def azB (t:Tm) (qu:Int) (Fk q:Int):St UU:=⟨[(1,(iI qu)),(2,(pt 2)),(5,(iI q)),(24,(sT t.c)),(25,(iI t.c.length)),(26,(iI Fk))],[(2,bT t)],[],[]⟩
def q0 (qu:Int) (t:Tm) (qF q:Int):St UU:=⟨[(1,(iI qu)),(5,(iI q)),(47,(sB t.s)),(48,(iI t.s.length)),(49,(iI qF))],[],[],[]⟩
def aCf (qu:Int) (t:Tm) (qF:Int) (x4:(Br Tm)) (q x:Int):St UU:=⟨[(1,(iI qu)),(5,(iI q)),(47,(sB t.s)),(48,(iI t.s.length)),(49,(iI qF)),(54,(sT x4.c)),(55,(iI x4.c.length)),(56,(iI x))],[],[],[]⟩
section
variable (hd:fK S) (k:Nat) (t:Tm) (qu:Int) (Z:Out UU->Option S)
theorem aEq (qF x4 Z2): ∀n x z,(Wc hd k).lp Z 14 [Z2] n (aCf qu t qF x4 x z)=nG hd k (da Z) (fun qF q=>Z2 (q0 qu t qF q)) qu t qF x4 n x z:=aL (xh hd k (da Z) qu t qF x4 (fun qF q=>Z2 (q0 qu t qF q)))
theorem aEp: ∀n qF q,(Wc hd k).lp Z 11 [] n (q0 qu t qF q)=ku hd k (da Z) qu t n qF q:=aL (fun own=>sE hd k (da Z) qu t (fun qF x4 x z=>nG hd k (da Z) own qu t qF x4 k x z) own) rfl (fun _=>rfl) fun r qF q=>po (b:=sE hd k (da Z) qu t (fun qF x4 x z=>(Wc hd k).lp Z 14 [r] k (aCf qu t qF x4 x z)) (fun qF q=>r (q0 qu t qF q)) qF q) (by kernel_rfl) (by simp only [aEq])
theorem aEo: ∀n Fk q,(Wc hd k).lp Z 5 [] n (azB t qu Fk q)=nF hd k (da Z) t qu n Fk q:=aL (fun own=>sD hd k (da Z) t qu (fun qF x=>ku hd k (da Z) qu t k qF x) own) rfl (fun _=>rfl) fun r Fk q=>po (b:=sD hd k (da Z) t qu (fun qF x=>(Wc hd k).lp Z 11 [] k (q0 qu t qF x)) (fun Fk q=>r (azB t qu Fk q)) Fk q) (by kernel_rfl) (by simp only [aEp])
theorem aEn: ∀n,(Wc hd k).jn Z 1000003 [] n (aCe t qu)=Ak hd k (da Z) t qu n:=gL (xg hd k (da Z) t qu (fun Fk q=>nF hd k (da Z) t qu k Fk q)) rfl (fun _=>rfl) (po (b:=xg hd k (da Z) t qu (fun Fk q=>(Wc hd k).lp Z 5 [] k (azB t qu Fk q))) (by kernel_rfl) (by simp only [aEo]))
end
theorem aBh (o:Obj) (ho:ai o): ∀k:Nat,Tl o 151 (GJ (gz k:fK S))
 |0=>dz fun t qu Z x h=>by cases h
 |k+1=>ow (Wc (gz k) k) ⟨sr k ho,aBh o ho k,trivial⟩ func151 fun t qu Z x h=>po (b:=BU (gz k) k (da Z) ((Wc (gz k) k).jn Z 1000003 [] k (aCe t qu)) t qu) (by kernel_rfl) (po (by simp only [aEn];rfl) h)
def xp:Rw S:=aj adD xn fun l Z=>aa k (pi k l) (da Z)
def Wd:Fx S:=fp 15 [(123,jz k)] [(2,aS [5,6,7] [],ap 4 5)] k f201 0
def aCg (l:List (List Cl)) (q:Int):St UU:=⟨[(5,(Hm l .none)),(6,(iI l.length)),(7,(iI q))],[],[],[]⟩
section
variable (k:Nat) (l:List (List Cl)) (Z:Out UU->Option S)
theorem aEr: ∀n q,(Wd k).lp Z 2 [] n (aCg l q)=qi k (da Z) l n q:=cF (w9 k (da Z) l)
end
theorem pM (ho:ai o):Tl o 201 (xp k:Rw S):=ow (Wd k) ⟨j_ k ho,trivial⟩ func201 fun l Z x h=>po (b:=HT k (da Z) (fun q=>(Wd k).lp Z 2 [] k (aCg l q)) l) (by kernel_rfl) (po (by simp only [aEr];rfl) (al h))
def GK:Rw S:=aj cn xn fun Z=>aa k (tK k) (ahY Z)
def CZ:Fx S:=fx 1 (fun _=>[]) (fun _=>false) [] [] k f186 false [true] 0
theorem Kp (ho:ai o):Tl o 186 (GK k:Rw S):=ow (CZ k) trivial func186 fun Z x h=>pz h
def my:Rw S:=aj Mr xn fun i Z=>aa k (pn k i) (b_ Z)
def We:Fx S:=fp 9 [] [] k f230 0
theorem nq (ho:ai o):Tl o 230 (my k:Rw S):=ow (We k) trivial func230 fun i Z x h=>pz h
def Bd:Rw S:=aj adE xn fun s oE qx Z=>aa k (lx k s oE qx) (AO Z)
def C0:Fx S:=fp 46 [(230,my k)] [] k f185 0
theorem Ei (ho:ai o):Tl o 185 (Bd k:Rw S):=ow (C0 k) ⟨nq k ho,trivial⟩ func185 fun s oE qx Z x h=>pz h
def GL:Rw S:=aj Li xn fun c oE qx Z=>aa k (yD k c oE qx) (ahZ Z)
def Wf:Fx S:=fp 42 [(184,OM k),(185,Bd k)] [] k f133 0
theorem Kq (ho:ai o):Tl o 133 (GL k:Rw S):=ow (Wf k) ⟨aaY k ho,Ei k ho,trivial⟩ func133 fun c oE qx Z x h=>pz h
def GM:Rw S:=aj Lj ih fun sW c c0 c1 Z=>aa k (DN k sW c c0 c1) (vA c0 c1 Z)
def Wg:Fx S:=fx 22 (fun _=>[]) (fun _=>false) [(133,GL k)] [] k f203 false [true,false] 2
theorem Kr (ho:ai o):Tl o 203 (GM k:Rw S):=ow (Wg k) ⟨Kq k ho,trivial⟩ func203 fun sW c c0 c1 Z x h=>pz h
def PO:Rw S:=aj aGz ih fun l oE c0 c1 Z=>aa k (yT k l oE c0 c1) (N8 c0 c1 Z)
def Wi:Fx S:=fx 33 (fun|23=>[true,false]|_=>[]) (fun _=>false) [(203,GM k)] [(2,⟨[(1,qn 100001),(2,nP),(13,nP),(14,nP),(15,nP)],[(1000000,[nP]),(1000001,[nP])]⟩,ap 4 5)] k f202 false [] 2
def aCi (c0 c1:Int) (l:List Cl) (v1:List Cl) (q:Int):St UU:=⟨[(1,(.own 100001 0)),(2,(.func 203 [] [(pt 1000000),(pt 1000001)])),(13,(sC l)),(14,(iI l.length)),(15,(iI q))],[(1000000,bI c0),(1000001,bI c1)],[(100001,⟨0,ET.C,v1⟩)],[(100001,.wr)]⟩
section
variable (k:Nat) (l oE:List Cl) (c0 c1:Int) (Z:Out UU->Option S)
theorem aEv: ∀n v1 q,(Wi k).lp Z 2 [] n (aCi c0 c1 l v1 q)=qf k (N8 c0 c1 Z) c0 c1 l n v1 q:=aL (o' k (N8 c0 c1 Z) c0 c1 l)
end
theorem ab0 (ho:ai o):Tl o 202 (PO k:Rw S):=ow (Wi k) ⟨Kr k ho,trivial⟩ func202 fun l oE c0 c1 Z x h=>po (b:=HQ k (N8 c0 c1 Z) (fun v1 q=>(Wi k).lp Z 2 [] k (aCi c0 c1 l v1 q)) l oE c0 c1) (by kernel_rfl) (po (by simp only [aEv];rfl) (al h))
def PP:Rw S:=aj adG xn fun f oE qx Z=>aa k (jV k f oE qx) (ub Z)
def Wj:Fx S:=fx 31 (fun|21=>[false,true,false]|_=>[]) (fun _=>false) [(172,Pp k),(186,GK k),(201,xp k),(202,PO k)] [] k f160 false [] 0
theorem jw (ho:ai o):Tl o 160 (PP k:Rw S):=ow (Wj k) ⟨M1 k ho,Kp k ho,pM k ho,ab0 k ho,trivial⟩ func160 fun f oE qx Z x h=>pz h
def PQ:Rw S:=aj EY xn fun l_0 l_1 f oE Z=>aa k (tN k l_0 l_1 f oE) (ah0 Z)
def Wl:Fx S:=fp 31 [(160,PP k)] [] k f196 0
theorem ab2 (ho:ai o):Tl o 196 (PQ k:Rw S):=ow (Wl k) ⟨jw k ho,trivial⟩ func196 fun l_0 l_1 f oE Z x h=>pz h
def PR (hd:fJ S):Rw S:=aj adH xn fun l_0 l_1 t v d Z=>hd l_0 l_1 t v d (AP Z)
def C1 (hd:fJ S) (k:Nat):Fx S:=fp 128 [(126,Od k),(148,PR hd),(196,PQ k)] [(1000006,⟨[(2,nP),(3,nP),(4,nP),(5,nP),(8,nP),(9,nP)],[(4,[nP,nP]),(5,[nP,nP,nP,nP,nP,nP]),(8,[nP,nP,nP,qn 200515,qn 200516,qn 200517]),(9,[nP,nP,nP,nP,qn 200580,qn 200581])]⟩,ap 3 7),(7,⟨[(2,nP),(3,nP),(4,nP),(5,nP),(8,nP),(9,nP),(55,nP),(56,nP),(57,nP)],[(4,[nP,nP]),(5,[nP,nP,nP,nP,nP,nP]),(8,[nP,nP,nP,qn 200515,qn 200516,qn 200517]),(9,[nP,nP,nP,nP,qn 200580,qn 200581])]⟩,ap 6 23),(16,⟨[(2,nP),(3,nP),(4,nP),(8,nP),(9,nP),(14,nP),(88,nP),(89,nP),(90,nP)],[(4,[nP,nP]),(8,[nP,nP,nP,qn 200515,qn 200516,qn 200517]),(9,[nP,nP,nP,nP,qn 200580,qn 200581])]⟩,ap 9 191),(20,⟨[(2,nP),(3,nP),(4,nP),(8,nP),(9,nP),(14,nP),(17,nP),(88,nP),(89,nP),(90,nP),(101,nP),(102,nP),(103,nP)],[(4,[nP,nP]),(8,[nP,nP,nP,qn 200515,qn 200516,qn 200517]),(9,[nP,nP,nP,nP,qn 200580,qn 200581]),(17,[nP,qn 201089])]⟩,ap 19 183487)] k f148 0
def Ng (l_0 l_1:Int) (t:Tm) (r2:List Cl) (v d:Int) (q:Int):St UU:=⟨[(2,(iI v)),(3,(iI d)),(4,(pt 4)),(5,(pt 5)),(8,(pt 8)),(9,(pt 9))],[(4,.cells [(iI l_0),(iI l_1)]),(5,bT t),(8,.cells [(iI 0),(iI 0),zu,(.own 200515 0),(.own 200516 0),(.own 200517 0)]),(9,.cells [(iI t.k),(iI q),(.str t.name),(sC r2),(.own 200580 0),(.own 200581 0)])],[(200581,xO),(200580,zm),(200517,xO),(200516,zm),(200515,xX)],[(200581,.wr),(200580,.wr),(200517,.wr),(200516,.wr),(200515,.wr)]⟩
def azD (l_0 l_1:Int) (t:Tm) (x:Int) (r2:List Cl) (v d:Int) (q:List Tm) (z:Int):St UU:=⟨[(2,(iI v)),(3,(iI d)),(4,(pt 4)),(5,(pt 5)),(8,(pt 8)),(9,(pt 9)),(55,(sT t.c)),(56,(iI t.c.length)),(57,(iI z))],[(4,.cells [(iI l_0),(iI l_1)]),(5,bT t),(8,.cells [(iI 0),(iI 0),zu,(.own 200515 0),(.own 200516 0),(.own 200517 0)]),(9,.cells [(iI t.k),(iI x),(.str t.name),(sC r2),(.own 200580 0),(.own 200581 0)])],[(200581,xO),(200580,⟨0,ET.T,q⟩),(200517,xO),(200516,zm),(200515,xX)],[(200581,.wr),(200580,.wr),(200517,.wr),(200516,.wr),(200515,.wr)]⟩
def W1 (l_0 l_1:Int) (t:Tm) (A:Int) (r2:List Cl) (x:List Tm) (v d:Int) (z:List (Br Tm)) (q xk:Int):St UU:=⟨[(2,(iI v)),(3,(iI d)),(4,(pt 4)),(8,(pt 8)),(9,(pt 9)),(14,(iI q)),(88,(sB t.s)),(89,(iI t.s.length)),(90,(iI xk))],[(4,.cells [(iI l_0),(iI l_1)]),(8,.cells [(iI 0),(iI 0),zu,(.own 200515 0),(.own 200516 0),(.own 200517 0)]),(9,.cells [(iI t.k),(iI A),(.str t.name),(sC r2),(.own 200580 0),(.own 200581 0)])],[(200581,⟨0,ET.B,z⟩),(200580,⟨0,ET.T,x⟩),(200517,xO),(200516,zm),(200515,xX)],[(200581,.wr),(200580,.wr),(200517,.wr),(200516,.wr),(200515,.wr)]⟩
def aCj (Al:List Cl) (l_0 l_1:Int) (t:Tm) (I:Int) (r2:List Cl) (z:List Tm) (A:List (Br Tm)) (E:(Br Tm)) (q v d xk:Int) (x:List Tm) (F:Int):St UU:=⟨[(2,(iI v)),(3,(iI d)),(4,(pt 4)),(8,(pt 8)),(9,(pt 9)),(14,(iI q)),(17,(pt 17)),(88,(sB t.s)),(89,(iI t.s.length)),(90,(iI xk)),(101,(sT E.c)),(102,(iI E.c.length)),(103,(iI F))],[(4,.cells [(iI l_0),(iI l_1)]),(8,.cells [(iI 0),(iI 0),zu,(.own 200515 0),(.own 200516 0),(.own 200517 0)]),(9,.cells [(iI t.k),(iI I),(.str t.name),(sC r2),(.own 200580 0),(.own 200581 0)]),(17,.cells [(sC Al),(.own 201089 0)])],[(201089,⟨0,ET.T,x⟩),(200581,⟨0,ET.B,A⟩),(200580,⟨0,ET.T,z⟩),(200517,xO),(200516,zm),(200515,xX)],[(201089,.wr),(200581,.wr),(200580,.wr),(200517,.wr),(200516,.wr),(200515,.wr)]⟩
section
variable (hd:fJ S) (k:Nat) (l_0 l_1:Int) (t:Tm) (v d:Int) (Z:Out UU->Option S)
theorem aEy (Al A r2 z x F q xk Z2): ∀n B E,(C1 hd k).lp Z 20 [Z2] n (aCj Al l_0 l_1 t A r2 z x F q v d xk B E)=l7 hd k (AP Z) (fun x q xk=>Z2 (W1 l_0 l_1 t A r2 z v d x q xk)) Al l_0 l_1 t A r2 z x F q v d xk n B E:=aL (xe hd k (AP Z) Al l_0 l_1 t A r2 z x F q v d xk (fun x q xk=>Z2 (W1 l_0 l_1 t A r2 z v d x q xk)))
theorem aEx (A r2 z): ∀n x q xk,(C1 hd k).lp Z 16 [] n (W1 l_0 l_1 t A r2 z v d x q xk)=Mq hd k (AP Z) l_0 l_1 t A r2 z v d n x q xk:=eW (fun own=>sA hd k (AP Z) l_0 l_1 t A r2 z v d (fun F x I q xk B E=>l7 hd k (AP Z) own F l_0 l_1 t A r2 z x I q v d xk k B E) own) rfl (fun _=>rfl) fun r x q xk=>po (b:=sA hd k (AP Z) l_0 l_1 t A r2 z v d (fun F x I q xk B E=>(C1 hd k).lp Z 20 [r] k (aCj F l_0 l_1 t A r2 z x I q v d xk B E)) (fun x q xk=>r (W1 l_0 l_1 t A r2 z v d x q xk)) x q xk) (by kernel_rfl) (by simp only [aEy])
theorem aEw (z r2): ∀n q A,(C1 hd k).lp Z 7 [] n (azD l_0 l_1 t z r2 v d q A)=M9 hd k (AP Z) l_0 l_1 t z r2 v d n q A:=aL (fun own=>sz hd k (AP Z) l_0 l_1 t z r2 v d (fun q B x E=>Mq hd k (AP Z) l_0 l_1 t z r2 q v d k B x E) own) rfl (fun _=>rfl) fun r q A=>po (b:=sz hd k (AP Z) l_0 l_1 t z r2 v d (fun q B x E=>(C1 hd k).lp Z 16 [] k (W1 l_0 l_1 t z r2 q v d B x E)) (fun q A=>r (azD l_0 l_1 t z r2 v d q A)) q A) (by kernel_rfl) (by simp only [aEx])
theorem YZ (r2): ∀n q,(C1 hd k).jn Z 1000006 [] n (Ng l_0 l_1 t r2 v d q)=uJ hd k (AP Z) l_0 l_1 t r2 v d n q:=nx (Da hd k (AP Z) l_0 l_1 t r2 v d (fun q x z=>M9 hd k (AP Z) l_0 l_1 t q r2 v d k x z)) rfl (fun _=>rfl) (fun q=>po (b:=Da hd k (AP Z) l_0 l_1 t r2 v d (fun q x z=>(C1 hd k).lp Z 7 [] k (azD l_0 l_1 t q r2 v d x z)) q) (by kernel_rfl) (by simp only [aEw]))
end
theorem dy (o:Obj) (ho:ai o): ∀k:Nat,Tl o 148 (PR (dk k:fJ S))
 |0=>dz fun l_0 l_1 t v d Z x h=>by cases h
 |k+1=>ow (C1 (dk k) k) ⟨sr k ho,dy o ho k,ab2 k ho,trivial⟩ func148 fun l_0 l_1 t v d Z x h=>po (b:=HY (dk k) k (AP Z) (fun z q=>(C1 (dk k) k).jn Z 1000006 [] k (Ng l_0 l_1 t z v d q)) l_0 l_1 t v d) (by kernel_rfl) (po (by simp only [YZ];rfl) h)
def aC2:Rw S:=aj adI aDy fun c0 c1 c2 Z=>aa k (yW k c0 c1 c2) (ah1 c0 c1 c2 Z)
def Wm:Fx S:=fp 11 [(148,PR (dk k))] [] k f155 3
theorem pN (ho:ai o):Tl o 155 (aC2 k:Rw S):=ow (Wm k) ⟨dy o ho k,trivial⟩ func155 fun c0 c1 c2 Z x h=>pz h
def PS:Rw S:=aj aGA aDy fun t numbers c0 c1 c2 Z=>aa k (y7 k t numbers c0 c1 c2) (ah c0 c1 c2 Z)
def Wn:Fx S:=⟨⟨30,(fun _=>[]),(fun _=>false),nP,fun|6=>true|7=>true|_=>false⟩,[(14,PK k),(155,aC2 k)],[(5,⟨[(2,nP),(6,nP),(7,nP),(17,nP),(18,nP),(19,nP)],[(1000000,[nP]),(1000001,[nP]),(1000002,[nP,nP,nP,nP,nP,nP]),(5000006,[nP,nP,nP,qn 320200387,qn 320200388,qn 320200389]),(5000007,[nP])]⟩,ap 5 11)],k,f146,false,[],3,some (o9 16 195 f195 k)⟩
def aCk (c0 c1:Int) (c2:Tm) (numbers:List Int) (q:Int):St UU:=⟨[(2,(.func 155 [] [(pt 1000000),(pt 1000001),(pt 1000002)])),(6,(pt 5000006)),(7,(pt 5000007)),(17,(la numbers .none)),(18,(iI numbers.length)),(19,(iI q))],[(1000000,bI c0),(1000001,bI c1),(1000002,bT c2),(5000006,.cells [(iI 0),(iI 0),zu,(.own 320200387 0),(.own 320200388 0),(.own 320200389 0)]),(5000007,bI 0)],[(320200389,xO),(320200388,zm),(320200387,xX)],[(320200389,.wr),(320200388,.wr),(320200387,.wr)]⟩
section
variable (k:Nat) (t:Tm) (numbers:List Int) (c0 c1:Int) (c2:Tm) (Z:Out UU->Option S)
theorem aEz: ∀n q,(Wn k).lp Z 5 [] n (aCk c0 c1 c2 numbers q)=nE k (ah c0 c1 c2 Z) c0 c1 c2 numbers n q:=cF (xd k (ah c0 c1 c2 Z) c0 c1 c2 numbers)
end
theorem ab4 (ho:ai o):Tl o 146 (PS k:Rw S):=BZ (Wn k) rfl (yn o func195 (by kernel_rfl)) ⟨HN k ho,pN k ho,trivial⟩ func146 (by kernel_rfl) fun t numbers c0 c1 c2 Z x h=>po (b:=BS k (ah c0 c1 c2 Z) (fun q=>(Wn k).lp Z 5 [] k (aCk c0 c1 c2 numbers q)) t numbers c0 c1 c2) (by kernel_rfl) (po (by simp only [aEz];rfl) (al h))
def vO:Rw S:=aj r0 xn fun t vars nV Z=>aa k (lu k t vars nV) (BB Z)
def jQ:Fx S:=fp 18 [(146,PS k)] [] k f87 0
theorem azd (ho:ai o):Tl o 87 (vO k:Rw S):=ow (jQ k) ⟨ab4 k ho,trivial⟩ func87 fun t vars nV Z x h=>pz h
def PT:Rw S:=aj EA xn fun t Z=>aa k (ze k t) (da Z)
def Wo:Fx S:=fp 6 [] [] k f198 0
theorem ab5 (ho:ai o):Tl o 198 (PT k:Rw S):=ow (Wo k) trivial func198 fun t Z x h=>pz h
def PW (hd:gX S):Rw S:=aj adJ xn fun t qu u vars nV Z=>hd t qu u vars nV (AP Z)
def C2 (hd:gX S) (k:Nat):Fx S:=fp 137 [(87,vO k),(126,Od k),(153,PW hd),(198,PT k)] [(12,⟨[(1,nP),(3,nP),(4,nP),(5,nP),(7,nP),(10,nP),(13,nP),(66,nP),(67,nP),(68,nP)],[(5,[nP,nP,nP,nP,nP,nP]),(7,[nP,nP,nP,nP,nP,nP]),(10,[nP,nP,nP,qn 200643,qn 200644,qn 200645]),(13,[nP,nP,nP,qn 200835,qn 200836,qn 200837])]⟩,ap 6 23),(18,⟨[(1,nP),(3,nP),(4,nP),(5,nP),(7,nP),(10,nP),(13,nP),(97,nP),(98,nP),(99,nP)],[(5,[nP,nP,nP,nP,nP,nP]),(7,[nP,nP,nP,nP,nP,nP]),(10,[nP,nP,nP,qn 200643,qn 200644,qn 200645]),(13,[nP,nP,nP,qn 200835,qn 200836,qn 200837])]⟩,ap 7 47),(22,⟨[(1,nP),(3,nP),(4,nP),(5,nP),(7,nP),(10,nP),(13,nP),(20,nP),(97,nP),(98,nP),(99,nP),(108,nP),(109,nP),(110,nP)],[(5,[nP,nP,nP,nP,nP,nP]),(7,[nP,nP,nP,nP,nP,nP]),(10,[nP,nP,nP,qn 200643,qn 200644,qn 200645]),(13,[nP,nP,nP,qn 200835,qn 200836,qn 200837]),(20,[qn 201280,qn 201281])]⟩,ap 17 45871)] k f153 0
def Nj (t u:Tm) (qu vars nV:Int) (q:List Tm) (FJ:Int):St UU:=⟨[(1,(iI qu)),(3,(iI vars)),(4,(iI nV)),(5,(pt 5)),(7,(pt 7)),(10,(pt 10)),(13,(pt 13)),(66,(sT t.c)),(67,(iI t.c.length)),(68,(iI FJ))],[(5,bT t),(7,bT u),(10,.cells [(iI 0),(iI 0),zu,(.own 200643 0),(.own 200644 0),(.own 200645 0)]),(13,.cells [(iI t.k),(iI 0),(.str t.name),(.own 200835 0),(.own 200836 0),(.own 200837 0)])],[(200837,xO),(200836,⟨0,ET.T,q⟩),(200835,⟨0,ET.C,t.r⟩),(200645,xO),(200644,zm),(200643,xX)],[(200837,.wr),(200836,.wr),(200835,.wr),(200645,.wr),(200644,.wr),(200643,.wr)]⟩
def w4 (t:Tm) (q:List Tm) (u:Tm) (qu vars nV:Int) (x:List (Br Tm)) (z:Int):St UU:=⟨[(1,(iI qu)),(3,(iI vars)),(4,(iI nV)),(5,(pt 5)),(7,(pt 7)),(10,(pt 10)),(13,(pt 13)),(97,(sB t.s)),(98,(iI t.s.length)),(99,(iI z))],[(5,bT t),(7,bT u),(10,.cells [(iI 0),(iI 0),zu,(.own 200643 0),(.own 200644 0),(.own 200645 0)]),(13,.cells [(iI t.k),(iI 0),(.str t.name),(.own 200835 0),(.own 200836 0),(.own 200837 0)])],[(200837,⟨0,ET.B,x⟩),(200836,⟨0,ET.T,q⟩),(200835,⟨0,ET.C,t.r⟩),(200645,xO),(200644,zm),(200643,xX)],[(200837,.wr),(200836,.wr),(200835,.wr),(200645,.wr),(200644,.wr),(200643,.wr)]⟩
def aCl (t:Tm) (q:List Tm) (x:List (Br Tm)) (E:(Br Tm)) (u:Tm) (qu vars nV F:Int) (z:List Tm) (A:Int):St UU:=⟨[(1,(iI qu)),(3,(iI vars)),(4,(iI nV)),(5,(pt 5)),(7,(pt 7)),(10,(pt 10)),(13,(pt 13)),(20,(pt 20)),(97,(sB t.s)),(98,(iI t.s.length)),(99,(iI F)),(108,(sT E.c)),(109,(iI E.c.length)),(110,(iI A))],[(5,bT t),(7,bT u),(10,.cells [(iI 0),(iI 0),zu,(.own 200643 0),(.own 200644 0),(.own 200645 0)]),(13,.cells [(iI t.k),(iI 0),(.str t.name),(.own 200835 0),(.own 200836 0),(.own 200837 0)]),(20,.cells [(.own 201280 0),(.own 201281 0)])],[(201281,⟨0,ET.T,z⟩),(201280,⟨0,ET.C,E.f⟩),(200837,⟨0,ET.B,x⟩),(200836,⟨0,ET.T,q⟩),(200835,⟨0,ET.C,t.r⟩),(200645,xO),(200644,zm),(200643,xX)],[(201281,.wr),(201280,.wr),(200837,.wr),(200836,.wr),(200835,.wr),(200645,.wr),(200644,.wr),(200643,.wr)]⟩
section
variable (hd:gX S) (k:Nat) (t:Tm) (qu:Int) (u:Tm) (vars nV:Int) (Z:Out UU->Option S)
theorem aEB (x q E z Z1): ∀n A B,(C2 hd k).lp Z 22 [Z1] n (aCl t x q E u qu vars nV z A B)=Sk hd k (AP Z) (fun q z=>Z1 (w4 t x u qu vars nV q z)) t x q E u qu vars nV z n A B:=aL (xj hd k (AP Z) t x q E u qu vars nV z (fun q z=>Z1 (w4 t x u qu vars nV q z)))
theorem aEA (x): ∀n q z,(C2 hd k).lp Z 18 [] n (w4 t x u qu vars nV q z)=kw hd k (AP Z) t x u qu vars nV n q z:=aL (fun own=>hL hd k (AP Z) t x u qu vars nV (fun q E z A B=>Sk hd k (AP Z) own t x q E u qu vars nV z k A B) own) rfl (fun _=>rfl) fun r q z=>po (b:=hL hd k (AP Z) t x u qu vars nV (fun q E z A B=>(C2 hd k).lp Z 22 [r] k (aCl t x q E u qu vars nV z A B)) (fun q z=>r (w4 t x u qu vars nV q z)) q z) (by kernel_rfl) (by simp only [aEB])
theorem Y4: ∀n q FJ,(C2 hd k).lp Z 12 [] n (Nj t u qu vars nV q FJ)=qj hd k (AP Z) t u qu vars nV n q FJ:=aL (fun own=>s7 hd k (AP Z) t u qu vars nV (fun q x z=>kw hd k (AP Z) t q u qu vars nV k x z) own) rfl (fun _=>rfl) fun r q FJ=>po (b:=s7 hd k (AP Z) t u qu vars nV (fun q x z=>(C2 hd k).lp Z 18 [] k (w4 t q u qu vars nV x z)) (fun q FJ=>r (Nj t u qu vars nV q FJ)) q FJ) (by kernel_rfl) (by simp only [aEA])
end
theorem aBj (o:Obj) (ho:ai o): ∀k:Nat,Tl o 153 (PW (gA k:gX S))
 |0=>dz fun t qu u vars nV Z x h=>by cases h
 |k+1=>ow (C2 (gA k) k) ⟨azd k ho,sr k ho,aBj o ho k,ab5 k ho,trivial⟩ func153 fun t qu u vars nV Z x h=>po (b:=H2 (gA k) k (AP Z) (fun q FJ=>(C2 (gA k) k).lp Z 12 [] k (Nj t u qu vars nV q FJ)) t qu u vars nV) (by kernel_rfl) (po (by simp only [Y4];rfl) h)
def Be (hd:dp S):Rw S:=aj EA xn fun t Z=>hd t (da Z)
def PY (hd:dp S) (k:Nat):Rw S:=aj Lh fh fun Dd p q c0 Z=>aa k (hU hd k Dd p q c0) (N7 Z)
def Wq (hd:dp S) (k:Nat):Fx S:=fp 12 [(154,Be hd)] [] k f199 1
theorem ab8 (o:Obj) (ho:ai o) (hd:dp S) (Hd:Tl o 154 (Be hd)) (k:Nat):Tl o 199 (PY hd k:Rw S):=ow (Wq hd k) ⟨Hd,trivial⟩ func199 fun Dd p q c0 Z x h=>pz h
def aC3 (hd:dp S) (k:Nat):Rw S:=aj E0 fh fun t c0 Z=>aa k (DZ hd k t c0) (N7 Z)
def Wr (hd:dp S) (k:Nat):Fx S:=fp 60 [(126,Od k),(199,PY hd k)] [(2,aS [1,2,15,16,17] [(2,6),(1000000,1)],ap 4 5),(12,aS [1,9,40,41,42] [(1000000,1)],ap 7 47),(15,aS [1,9,40,41,42,47,48,49] [(1000000,1)],ap 15 13103)] k f58 1
def azF (t:Tm) (q ox:Int):St UU:=⟨[(1,(.func 199 [] [(pt 1000000)])),(2,(pt 2)),(15,(sT t.c)),(16,(iI t.c.length)),(17,(iI ox))],[(2,bT t),(1000000,bI q)],[],[]⟩
def iT (t:Tm) (qw oI q:Int):St UU:=⟨[(1,(.func 199 [] [(pt 1000000)])),(9,(iI q)),(40,(sB t.s)),(41,(iI t.s.length)),(42,(iI oI))],[(1000000,bI qw)],[],[]⟩
def aCn (t:Tm) (oI:Int) (x4:(Br Tm)) (q:Int) (qE qF:Int):St UU:=⟨[(1,(.func 199 [] [(pt 1000000)])),(9,(iI q)),(40,(sB t.s)),(41,(iI t.s.length)),(42,(iI oI)),(47,(sT x4.c)),(48,(iI x4.c.length)),(49,(iI qF))],[(1000000,bI qE)],[],[]⟩
section
variable (hd:dp S) (k:Nat) (t:Tm) (c0:Int) (Z:Out UU->Option S)
theorem aEH (oI x4 q Z1): ∀n qE qF,(Wr hd k).lp Z 15 [Z1] n (aCn t oI x4 q qE qF)=n5 hd k (N7 Z) (fun qw oI q=>Z1 (iT t qw oI q)) t oI x4 q n qE qF:=aL (yk hd k (N7 Z) t oI x4 q (fun qw oI q=>Z1 (iT t qw oI q)))
theorem aEG: ∀n qw oI q,(Wr hd k).lp Z 12 [] n (iT t qw oI q)=kN hd k (N7 Z) t n qw oI q:=eW (fun own=>tu hd k (N7 Z) t (fun oI x4 q qE qF=>n5 hd k (N7 Z) own t oI x4 q k qE qF) own) rfl (fun _=>rfl) fun r qw oI q=>po (b:=tu hd k (N7 Z) t (fun oI x4 q qE qF=>(Wr hd k).lp Z 15 [r] k (aCn t oI x4 q qE qF)) (fun qw oI q=>r (iT t qw oI q)) qw oI q) (by kernel_rfl) (by simp only [aEH])
theorem aEF: ∀n x ox,(Wr hd k).lp Z 2 [] n (azF t x ox)=l4 hd k (N7 Z) t n x ox:=aL (fun own=>hZ hd k (N7 Z) t (fun qw oI q=>kN hd k (N7 Z) t k qw oI q) own) rfl (fun _=>rfl) fun r x ox=>po (b:=hZ hd k (N7 Z) t (fun qw oI q=>(Wr hd k).lp Z 12 [] k (iT t qw oI q)) (fun x ox=>r (azF t x ox)) x ox) (by kernel_rfl) (by simp only [aEG])
end
theorem Ks (o:Obj) (ho:ai o) (hd:dp S) (Hd:Tl o 154 (Be hd)) (k:Nat):Tl o 58 (aC3 hd k:Rw S):=ow (Wr hd k) ⟨sr k ho,ab8 o ho hd Hd k,trivial⟩ func58 fun t c0 Z x h=>po (b:=IX hd k (N7 Z) (fun q ox=>(Wr hd k).lp Z 2 [] k (azF t q ox)) t c0) (by kernel_rfl) (po (by simp only [aEF];rfl) (al h))
def Wp (hd:dp S) (k:Nat):Fx S:=fp 9 [(58,aC3 hd k)] [] k f154 0
theorem aBk (o:Obj) (ho:ai o): ∀k:Nat,Tl o 154 (Be (j5 k:dp S))
 |0=>dz fun t Z x h=>by cases h
 |k+1=>ow (Wp (j5 k) k) ⟨Ks o ho (j5 k) (aBk o ho k) k,trivial⟩ func154 fun t Z x h=>po (by kernel_rfl) h
def PZ:Rw S:=aj Ai xn fun t qu u Z=>aa k (zd k t qu u) (BB Z)
def Ws:Fx S:=⟨⟨49,(fun _=>[]),(fun _=>false),nP,fun|6=>true|7=>true|_=>false⟩,[(14,PK k),(150,PM (j6 k)),(151,GJ (gz k)),(153,PW (gA k)),(154,Be (j5 k))],[],k,f86,false,[],0,some (o9 16 152 f152 k)⟩
theorem ab9 (ho:ai o):Tl o 86 (PZ k:Rw S):=BZ (Ws k) rfl (yn o func152 (by kernel_rfl)) ⟨HN k ho,aBg o ho k,aBh o ho k,aBj o ho k,aBk o ho k,trivial⟩ func86 (by kernel_rfl) fun t qu u Z x h=>pz h
def P0:Rw S:=aj adK fh fun t xx c0 Z=>aa k (Hv k t xx c0) (AQ Z)
def Wt:Fx S:=fp 23 [] [] k f81 1
theorem K5 (ho:ai o):Tl o 81 (P0 k:Rw S):=ow (Wt k) trivial func81 fun t xx c0 Z x h=>pz h
def P1:Rw S:=aj mf fh fun t u c0 Z=>aa k (za k t u c0) (AQ Z)
def C3:Fx S:=fp 18 [(81,P0 k),(82,IE k),(86,PZ k)] [] k f38 1
theorem c' (ho:ai o):Tl o 38 (P1 k:Rw S):=ow (C3 k) ⟨K5 k ho,KX k ho,ab9 k ho,trivial⟩ func38 fun t u c0 Z x h=>pz h
def Bf:Rw S:=aj adL xn fun b Z=>aa k (cW k b) (F9 Z)
def Wu:Fx S:=fp 15 [] [] k f193 0
theorem Ek (ho:ai o):Tl o 193 (Bf k:Rw S):=ow (Wu k) trivial func193 fun b Z x h=>pz h
def vP:Rw S:=aj E1 xn fun s Z=>aa k (cP k s) (da Z)
def Wv:Fx S:=fp 19 [(193,Bf k)] [(2,aS [0,1,7,8] [],ap 4 5)] k f192 0
def aCo (s:List (Br Tm)) (q:Int):St UU:=⟨[(0,(sB s)),(1,(.func 193 [] [])),(7,(iI s.length)),(8,(iI q))],[],[],[]⟩
section
variable (k:Nat) (s:List (Br Tm)) (Z:Out UU->Option S)
theorem aEI: ∀n q,(Wv k).lp Z 2 [] n (aCo s q)=je k (da Z) s n q:=cF (cm k (da Z) s)
end
theorem zO (ho:ai o):Tl o 192 (vP k:Rw S):=ow (Wv k) ⟨Ek k ho,trivial⟩ func192 fun s Z x h=>po (b:=aAn k (da Z) (fun q=>(Wv k).lp Z 2 [] k (aCo s q)) s) (by kernel_rfl) (po (by simp only [aEI];rfl) (al h))
def P2:Rw S:=aj Lk xn fun l Z=>aa k (cS k l) (da Z)
def Ww:Fx S:=fp 5 [(192,vP k)] [] k f137 0
theorem acb (ho:ai o):Tl o 137 (P2 k:Rw S):=ow (Ww k) ⟨zO k ho,trivial⟩ func137 fun l Z x h=>pz h
def Bg:Rw S:=aj cn xn fun Z=>aa k (Nr k) (cM Z)
def Wx:Fx S:=fp 3 [] [] k f130 0
theorem Em (ho:ai o):Tl o 130 (Bg k:Rw S):=ow (Wx k) trivial func130 fun Z x h=>pz h
def P3:Rw S:=aj lS xn fun s i Z=>aa k (i_ k s i) (b_ Z)
def Wy:Fx S:=fp 16 [(238,PE k)] [] k f242 0
theorem r6 (ho:ai o):Tl o 242 (P3 k:Rw S):=ow (Wy k) ⟨k2 k ho,trivial⟩ func242 fun s i Z x h=>pz h
def P4:Rw S:=aj uG xn fun sQ Z=>aa k (JH k sQ) (da Z)
def Wz:Fx S:=fp 21 [] [] k f263 0
theorem ace (ho:ai o):Tl o 263 (P4 k:Rw S):=ow (Wz k) trivial func263 fun sQ Z x h=>pz h
def P5:Rw S:=aj uG xn fun s Z=>aa k (lw k s) (da Z)
def WA:Fx S:=fp 6 [(263,P4 k)] [] k f241 0
theorem acf (ho:ai o):Tl o 241 (P5 k:Rw S):=ow (WA k) ⟨ace k ho,trivial⟩ func241 fun s Z x h=>pz h
def P6:Rw S:=aj Mr xn fun i Z=>aa k (yE k i) (F9 Z)
def aDC:Fx S:=fp 7 [(241,P5 k),(242,P3 k)] [] k f216 0
theorem acg (ho:ai o):Tl o 216 (P6 k:Rw S):=ow (aDC k) ⟨acf k ho,r6 k ho,trivial⟩ func216 fun i Z x h=>pz h
def P7:Rw S:=aj aBu xn fun t i rf Z=>aa k (DM k t i rf) (da Z)
def WC:Fx S:=fp 21 [(14,PK k),(123,jz k),(216,P6 k)] [] k f179 0
theorem ach (ho:ai o):Tl o 179 (P7 k:Rw S):=ow (WC k) ⟨HN k ho,j_ k ho,acg k ho,trivial⟩ func179 fun t i rf Z x h=>pz h
def vQ:Rw S:=aj adM Ii fun c0 c1 Z=>aa k (DG k c0 c1) (gR c0 c1 Z)
def WD:Fx S:=fp 6 [] [] k f217 2
theorem zP (ho:ai o):Tl o 217 (vQ k:Rw S):=ow (WD k) trivial func217 fun c0 c1 Z x h=>pz h
def GO:Rw S:=aj adO Ii fun c0 c1 Z=>aa k (DH k c0 c1) (ah3 c0 c1 Z)
def WE:Fx S:=fp 6 [] [] k f217 2
theorem Kt (ho:ai o):Tl o 217 (GO k:Rw S):=ow (WE k) trivial func217 fun c0 c1 Z x h=>pz h
def P8:Rw S:=aj adP xn fun i rf Z=>aa k (DF k i rf) (N9 Z)
def WF:Fx S:=fp 12 [(217,ol (uy adM Ii) (vQ k) (GO k))] [] k f180 0
theorem aci (ho:ai o):Tl o 180 (P8 k:Rw S):=ow (WF k) ⟨vw (zP k ho) (Kt k ho),trivial⟩ func180 fun i rf Z x h=>pz h
def GP:Rw S:=aj lS xn fun s i Z=>aa k (Mh k s i) (F9 Z)
def WG:Fx S:=fp 15 [(238,PE k)] [] k f219 0
theorem Ku (ho:ai o):Tl o 219 (GP k:Rw S):=ow (WG k) ⟨k2 k ho,trivial⟩ func219 fun s i Z x h=>pz h
def P9:Rw S:=aj eo xn fun f Z=>aa k (tD k f) (cM Z)
def C4:Fx S:=fp 5 [] [] k f220 0
theorem acj (ho:ai o):Tl o 220 (P9 k:Rw S):=ow (C4 k) trivial func220 fun f Z x h=>pz h
def GQ:Rw S:=aj Mr xn fun i Z=>aa k (yK k i) (F9 Z)
def WH:Fx S:=fp 7 [(241,P5 k),(242,P3 k)] [] k f233 0
theorem Kv (ho:ai o):Tl o 233 (GQ k:Rw S):=ow (WH k) ⟨acf k ho,r6 k ho,trivial⟩ func233 fun i Z x h=>pz h
def P_:Rw S:=aj ny xn fun c Z=>aa k (tJ k c) (N_ Z)
def WJ:Fx S:=fp 8 [(175,Bb k)] [] k f190 0
theorem ack (ho:ai o):Tl o 190 (P_ k:Rw S):=ow (WJ k) ⟨Eg k ho,trivial⟩ func190 fun c Z x h=>pz h
def Qa:Rw S:=aj Ll xn fun l Z=>aa k (yN k l) (cM Z)
def C5:Fx S:=fp 29 [(190,P_ k)] [(3,⟨[(1,nP),(5,qn 100005),(10,nP),(11,nP),(12,nP)],[]⟩,ap 5 11)] k f188 0
def Np (l:List Cl) (tg:Int) (q:List Cl):St UU:=⟨[(1,(.func 190 [] [])),(5,(.own 100005 0)),(10,(sC l)),(11,(iI l.length)),(12,(iI tg))],[],[(100005,⟨0,ET.C,q⟩)],[(100005,.wr)]⟩
section
variable (k:Nat) (l:List Cl) (Z:Out UU->Option S)
theorem Zc: ∀n tg q,(C5 k).lp Z 3 [] n (Np l tg q)=jg k (cM Z) l n tg q:=aL (wW k (cM Z) l)
end
theorem acl (ho:ai o):Tl o 188 (Qa k:Rw S):=ow (C5 k) ⟨ack k ho,trivial⟩ func188 fun l Z x h=>po (b:=HJ k (cM Z) (fun tg q=>(C5 k).lp Z 3 [] k (Np l tg q)) l) (by kernel_rfl) (po (by simp only [Zc];rfl) (al h))
def Qb:Rw S:=aj eo xn fun f Z=>aa k (tI k f) (ub Z)
def C6:Fx S:=fp 12 [(123,jz k),(172,Pp k),(188,Qa k)] [] k f248 0
theorem acm (ho:ai o):Tl o 248 (Qb k:Rw S):=ow (C6 k) ⟨j_ k ho,M1 k ho,acl k ho,trivial⟩ func248 fun f Z x h=>pz h
def Qc:Rw S:=aj EU wC fun b c0 Z=>aa k (yO k b c0) (mt c0 Z)
def WK:Fx S:=fp 11 [(190,P_ k),(191,OU k)] [] k f189 1
theorem acn (ho:ai o):Tl o 189 (Qc k:Rw S):=ow (WK k) ⟨ack k ho,aa6 k ho,trivial⟩ func189 fun b c0 Z x h=>pz h
def Bj:Rw S:=aj adQ wC fun l c0 Z=>aa k (yM k l c0) (e4 c0 Z)
def WL:Fx S:=fp 29 [(189,Qc k)] [(3,⟨[(1,nP),(5,qn 100005),(10,nP),(11,nP),(12,nP)],[(1000000,[nP,nP])]⟩,ap 5 11)] k f188 1
def aCp (c0:Cl) (l:List Cl) (tg:Int) (q:List Cl):St UU:=⟨[(1,(.func 189 [] [(pt 1000000)])),(5,(.own 100005 0)),(10,(sC l)),(11,(iI l.length)),(12,(iI tg))],[(1000000,bC c0)],[(100005,⟨0,ET.C,q⟩)],[(100005,.wr)]⟩
section
variable (k:Nat) (l:List Cl) (c0:Cl) (Z:Out UU->Option S)
theorem aEJ: ∀n tg q,(WL k).lp Z 3 [] n (aCp c0 l tg q)=p8 k (e4 c0 Z) c0 l n tg q:=aL (wV k (e4 c0 Z) c0 l)
end
theorem Eo (ho:ai o):Tl o 188 (Bj k:Rw S):=ow (WL k) ⟨acn k ho,trivial⟩ func188 fun l c0 Z x h=>po (b:=HI k (e4 c0 Z) (fun tg q=>(WL k).lp Z 3 [] k (aCp c0 l tg q)) l c0) (by kernel_rfl) (po (by simp only [aEJ];rfl) (al h))
def Qd:Rw S:=aj jk xn fun f g Z=>aa k (pe k f g) (ub Z)
def jZ:Fx S:=fp 25 [(172,Pp k),(188,Bj k)] [(3,⟨[(1,nP),(6,qn 100006),(9,nP),(10,nP),(11,nP)],[]⟩,ap 5 11)] k f136 0
def FL (g f:List Cl) (zr:Int) (q:List Cl):St UU:=⟨[(1,(sC g)),(6,(.own 100006 0)),(9,(sC f)),(10,(iI f.length)),(11,(iI zr))],[],[(100006,⟨0,ET.C,q⟩)],[(100006,.wr)]⟩
section
variable (k:Nat) (f g:List Cl) (Z:Out UU->Option S)
theorem Ze: ∀n zr q,(jZ k).lp Z 3 [] n (FL g f zr q)=p_ k (ub Z) g f n zr q:=aL (wX k (ub Z) g f)
end
theorem aco (ho:ai o):Tl o 136 (Qd k:Rw S):=ow (jZ k) ⟨M1 k ho,Eo k ho,trivial⟩ func136 fun f g Z x h=>po (b:=HK k (ub Z) (fun zr q=>(jZ k).lp Z 3 [] k (FL g f zr q)) f g) (by kernel_rfl) (po (by simp only [Ze];rfl) (al h))
def GS:Rw S:=aj jk xn fun f g Z=>aa k (yL k f g) (ub Z)
def aRy:Fx S:=fp 14 [(172,Pp k)] [] k f183 0
theorem Kx (ho:ai o):Tl o 183 (GS k:Rw S):=ow (aRy k) ⟨M1 k ho,trivial⟩ func183 fun f g Z x h=>pz h
def Qe:Rw S:=aj ny xn fun c Z=>aa k (yV k c) (ub Z)
def WM:Fx S:=fp 43 [(172,Pp k),(187,GZ),(242,P3 k)] [(3,⟨[(1,nP),(4,qn 100004),(11,nP),(12,nP),(13,nP)],[(1,[nP,nP])]⟩,ap 5 11),(8,⟨[(4,qn 100004),(26,nP),(27,nP),(28,nP)],[]⟩,ap 6 23)] k f265 0
def azG (c:Cl) (r1:List Int) (x:Int) (q:List Cl):St UU:=⟨[(1,(pt 1)),(4,(.own 100004 0)),(11,(la r1 .none)),(12,(iI r1.length)),(13,(iI x))],[(1,bC c)],[(100004,⟨0,ET.C,q⟩)],[(100004,.wr)]⟩
def aCq (r5:List Int) (Ij:Int) (q:List Cl):St UU:=⟨[(4,(.own 100004 0)),(26,(la r5 .none)),(27,(iI r5.length)),(28,(iI Ij))],[],[(100004,⟨0,ET.C,q⟩)],[(100004,.wr)]⟩
section
variable (k:Nat) (c:Cl) (Z:Out UU->Option S)
theorem aEL (r5): ∀n Ij q,(WM k).lp Z 8 [] n (aCq r5 Ij q)=Sp k (ub Z) r5 n Ij q:=aL (w8 k (ub Z) r5)
theorem aEK (r1): ∀n z q,(WM k).lp Z 3 [] n (azG c r1 z q)=qh k (ub Z) c r1 n z q:=aL (fun own=>q6 k (ub Z) c r1 (fun A Ij x=>Sp k (ub Z) A k Ij x) own) rfl (fun _=>rfl) fun r z q=>po (b:=q6 k (ub Z) c r1 (fun A Ij x=>(WM k).lp Z 8 [] k (aCq A Ij x)) (fun z q=>r (azG c r1 z q)) z q) (by kernel_rfl) (by simp only [aEL])
end
theorem acp (ho:ai o):Tl o 265 (Qe k:Rw S):=ow (WM k) ⟨M1 k ho,akR o ho,r6 k ho,trivial⟩ func265 fun c Z x h=>po (b:=HS k (ub Z) (fun r1 z q=>(WM k).lp Z 3 [] k (azG c r1 z q)) c) (by kernel_rfl) (po (by simp only [aEK];rfl) (al h))
def Qf:Rw S:=aj jk xn fun f g Z=>aa k (jW k f g) (ub Z)
def C7:Fx S:=fp 35 [(172,Pp k),(191,OU k)] [(3,⟨[(1,nP),(6,qn 100006),(11,nP),(12,nP),(13,nP)],[]⟩,ap 5 11),(6,⟨[(1,nP),(6,qn 100006),(8,nP),(11,nP),(12,nP),(13,nP),(17,nP),(18,nP),(19,nP)],[(8,[nP,nP])]⟩,ap 13 3275)] k f245 0
def Nt (g f:List Cl) (x:Int) (q:List Cl):St UU:=⟨[(1,(sC g)),(6,(.own 100006 0)),(11,(sC f)),(12,(iI f.length)),(13,(iI x))],[],[(100006,⟨0,ET.C,q⟩)],[(100006,.wr)]⟩
def aCr (x1:Cl) (g f:List Cl) (x:Int) (z:Int) (q:List Cl):St UU:=⟨[(1,(sC g)),(6,(.own 100006 0)),(8,(pt 8)),(11,(sC f)),(12,(iI f.length)),(13,(iI x)),(17,(sC g)),(18,(iI g.length)),(19,(iI z))],[(8,bC x1)],[(100006,⟨0,ET.C,q⟩)],[(100006,.wr)]⟩
section
variable (k:Nat) (f g:List Cl) (Z:Out UU->Option S)
theorem aEM (x1 q Z0): ∀n A x,(C7 k).lp Z 6 [Z0] n (aCr x1 g f q A x)=nA k (ub Z) (fun q z=>Z0 (Nt g f q z)) x1 g f q n A x:=aL (w7 k (ub Z) x1 g f q (fun q z=>Z0 (Nt g f q z)))
theorem Zi: ∀n q x,(C7 k).lp Z 3 [] n (Nt g f q x)=lZ k (ub Z) g f n q x:=aL (fun own=>l5 k (ub Z) g f (fun x1 q A z=>nA k (ub Z) own x1 g f q k A z) own) rfl (fun _=>rfl) fun r q x=>po (b:=l5 k (ub Z) g f (fun x1 q A z=>(C7 k).lp Z 6 [r] k (aCr x1 g f q A z)) (fun q x=>r (Nt g f q x)) q x) (by kernel_rfl) (by simp only [aEM])
end
theorem acq (ho:ai o):Tl o 245 (Qf k:Rw S):=ow (C7 k) ⟨M1 k ho,aa6 k ho,trivial⟩ func245 fun f g Z x h=>po (b:=HR k (ub Z) (fun z q=>(C7 k).lp Z 3 [] k (Nt g f z q)) f g) (by kernel_rfl) (po (by simp only [Zi];rfl) (al h))
def GT:Rw S:=aj Aj xn fun sW c Z=>aa k (yU k sW c) (ub Z)
def WN:Fx S:=fp 21 [(245,Qf k),(265,Qe k)] [] k f264 0
theorem Ky (ho:ai o):Tl o 264 (GT k:Rw S):=ow (WN k) ⟨acq k ho,acp k ho,trivial⟩ func264 fun sW c Z x h=>pz h
def Qh:Rw S:=aj E2 xn fun l oE Z=>aa k (DP k l oE) (ub Z)
def WP:Fx S:=fp 33 [(264,GT k)] [(2,aS [1,2,13,14,15] [],ap 4 5)] k f202 0
def aCs (l:List Cl) (v1:List Cl) (q:Int):St UU:=⟨[(1,(sC v1)),(2,(.func 264 [] [])),(13,(sC l)),(14,(iI l.length)),(15,(iI q))],[],[],[]⟩
section
variable (k:Nat) (l oE:List Cl) (Z:Out UU->Option S)
theorem aEN: ∀n v1 q,(WP k).lp Z 2 [] n (aCs l v1 q)=qe k (ub Z) l n v1 q:=aL (hI k (ub Z) l)
end
theorem acs (ho:ai o):Tl o 202 (Qh k:Rw S):=ow (WP k) ⟨Ky k ho,trivial⟩ func202 fun l oE Z x h=>po (b:=HP k (ub Z) (fun v1 q=>(WP k).lp Z 2 [] k (aCs l v1 q)) l oE) (by kernel_rfl) (po (by simp only [aEN];rfl) (al h))
def Qi:Rw S:=aj eo xn fun f Z=>aa k (ph k f) (ub Z)
def WQ:Fx S:=fp 9 [(130,Bg k),(202,Qh k)] [] k f246 0
theorem act (ho:ai o):Tl o 246 (Qi k:Rw S):=ow (WQ k) ⟨Em k ho,acs k ho,trivial⟩ func246 fun f Z x h=>pz h
def Qj:Rw S:=aj eo xn fun f Z=>aa k (yQ k f) (ub Z)
def aLF:Fx S:=fp 15 [(201,xp k),(246,Qi k)] [] k f266 0
theorem acu (ho:ai o):Tl o 266 (Qj k:Rw S):=ow (aLF k) ⟨pM k ho,act k ho,trivial⟩ func266 fun f Z x h=>pz h
def GU:Rw S:=aj eo xn fun f Z=>aa k (yI k f) (ub Z)
def WR:Fx S:=fp 18 [(248,Qb k),(266,Qj k)] [] k f249 0
theorem Kz (ho:ai o):Tl o 249 (GU k:Rw S):=ow (WR k) ⟨acm k ho,acu k ho,trivial⟩ func249 fun f Z x h=>pz h
def Qk:Rw S:=aj aBv xn fun f i rf Z=>aa k (yJ k f i rf) (ub Z)
def WS:Fx S:=fp 92 [(123,jz k),(125,PG k),(136,Qd k),(183,GS k),(213,Al k),(219,GP k),(233,GQ k),(248,Qb k),(249,GU k)] [(5,aS [1,2,8,27,28,29] [],ap 6 23),(1000018,aS [1,2,8,11,13,27,28,29] [],ap 16 63895)] k f222 0
def zl (i:Int) (rf f:List Cl) (q:Int) (x:List Cl):St UU:=⟨[(1,(iI i)),(2,(sC rf)),(8,(sC x)),(27,(sC f)),(28,(iI f.length)),(29,(iI q))],[],[],[]⟩
def aCt (i:Int) (rf f:List Cl) (q:Int) (z:List Cl) (g11:List Cl) (x:Int):St UU:=⟨[(1,(iI i)),(2,(sC rf)),(8,(sC z)),(11,(sC g11)),(13,(iI x)),(27,(sC f)),(28,(iI f.length)),(29,(iI q))],[],[],[]⟩
section
variable (k:Nat) (f:List Cl) (i:Int) (rf:List Cl) (Z:Out UU->Option S)
theorem aEP (q x Z0): ∀n g11 z,(WS k).jn Z 1000018 [Z0] n (aCt i rf f q x g11 z)=gv k (ub Z) (fun q x=>Z0 (zl i rf f q x)) i rf f q x n g11 z:=Lb (wU k (ub Z) i rf f q x (fun q x=>Z0 (zl i rf f q x)))
theorem aEO: ∀n q x,(WS k).lp Z 5 [] n (zl i rf f q x)=lY k (ub Z) i rf f n q x:=aL (fun own=>mx k (ub Z) i rf f (fun q x g11 z=>gv k (ub Z) own i rf f q x k g11 z) own) rfl (fun _=>rfl) fun r q x=>po (b:=mx k (ub Z) i rf f (fun q x g11 z=>(WS k).jn Z 1000018 [r] k (aCt i rf f q x g11 z)) (fun q x=>r (zl i rf f q x)) q x) (by kernel_rfl) (by simp only [aEP])
end
theorem acv (ho:ai o):Tl o 222 (Qk k:Rw S):=ow (WS k) ⟨j_ k ho,hG k ho,aco k ho,Kx k ho,pL k ho,Ku k ho,Kv k ho,acm k ho,Kz k ho,trivial⟩ func222 fun f i rf Z x h=>po (b:=HH k (ub Z) (fun q z=>(WS k).lp Z 5 [] k (zl i rf f q z)) f i rf) (by kernel_rfl) (po (by simp only [aEO];rfl) (al h))
def Ql:Rw S:=aj adS aJr fun f depth c0 c1 Z=>aa k (tF k f depth c0 c1) (ah5 c0 c1 Z)
def WT:Fx S:=fp 38 [(160,PP k),(173,vL k),(219,GP k),(220,P9 k),(222,Qk k)] [] k f218 3
theorem acw (ho:ai o):Tl o 218 (Ql k:Rw S):=ow (WT k) ⟨jw k ho,zN k ho,Ku k ho,acj k ho,acv k ho,trivial⟩ func218 fun f depth c0 c1 Z x h=>pz h
def Qm:Rw S:=aj Mr xn fun i Z=>aa k (yP k i) (ub Z)
def WU:Fx S:=fp 12 [(241,P5 k),(242,P3 k)] [] k f243 0
theorem acx (ho:ai o):Tl o 243 (Qm k:Rw S):=ow (WU k) ⟨acf k ho,r6 k ho,trivial⟩ func243 fun i Z x h=>pz h
def Qn:Rw S:=aj jk xn fun f g Z=>aa k (na k f g) (ub Z)
def C8:Fx S:=fp 14 [(172,Pp k)] [] k f247 0
theorem acy (ho:ai o):Tl o 247 (Qn k:Rw S):=ow (C8 k) ⟨M1 k ho,trivial⟩ func247 fun f g Z x h=>pz h
def Qo:Rw S:=aj aGD Ii fun sW c c0 c1 Z=>aa k (yS k sW c c0 c1) (q9 c0 c1 Z)
def WV:Fx S:=fp 63 [(213,Al k),(219,GP k),(245,Qf k),(246,Qi k),(247,Qn k)] [] k f244 2
theorem acz (ho:ai o):Tl o 244 (Qo k:Rw S):=ow (WV k) ⟨pL k ho,Ku k ho,acq k ho,act k ho,acy k ho,trivial⟩ func244 fun sW c c0 c1 Z x h=>pz h
def Qp:Rw S:=aj E3 Ii fun l oE c0 c1 Z=>aa k (DO k l oE c0 c1) (q9 c0 c1 Z)
def WW:Fx S:=fp 33 [(244,Qo k)] [(2,aS [1,2,13,14,15] [(1000000,1),(1000001,1)],ap 4 5)] k f202 2
def aCu (c0:Int) (c1 l:List Cl) (v1:List Cl) (q:Int):St UU:=⟨[(1,(sC v1)),(2,(.func 244 [] [(pt 1000000),(pt 1000001)])),(13,(sC l)),(14,(iI l.length)),(15,(iI q))],[(1000000,bI c0),(1000001,.cells [(sC c1)])],[],[]⟩
section
variable (k:Nat) (l oE:List Cl) (c0:Int) (c1:List Cl) (Z:Out UU->Option S)
theorem aEQ: ∀n v1 q,(WW k).lp Z 2 [] n (aCu c0 c1 l v1 q)=qc k (q9 c0 c1 Z) c0 c1 l n v1 q:=aL (wZ k (q9 c0 c1 Z) c0 c1 l)
end
theorem acA (ho:ai o):Tl o 202 (Qp k:Rw S):=ow (WW k) ⟨acz k ho,trivial⟩ func202 fun l oE c0 c1 Z x h=>po (b:=HO k (q9 c0 c1 Z) (fun v1 q=>(WW k).lp Z 2 [] k (aCu c0 c1 l v1 q)) l oE c0 c1) (by kernel_rfl) (po (by simp only [aEQ];rfl) (al h))
def Of:Rw S:=aj aBv xn fun f i rf Z=>aa k (yR k f i rf) (ub Z)
def UC:Fx S:=fp 32 [(186,GK k),(201,xp k),(202,Qp k),(243,Qm k)] [] k f221 0
theorem aau (ho:ai o):Tl o 221 (Of k:Rw S):=ow (UC k) ⟨Kp k ho,pM k ho,acA k ho,acx k ho,trivial⟩ func221 fun f i rf Z x h=>pz h
def Ga:Rw S:=aj adS Je fun f depth c0 c1 Z=>aa k (yF k f depth c0 c1) (aHm c0 c1 Z)
def UD:Fx S:=fp 38 [(160,PP k),(173,vL k),(219,GP k),(220,P9 k),(221,Of k)] [] k f218 3
theorem JS (ho:ai o):Tl o 218 (Ga k:Rw S):=ow (UD k) ⟨jw k ho,zN k ho,Ku k ho,acj k ho,aau k ho,trivial⟩ func218 fun f depth c0 c1 Z x h=>pz h
def Gb:Rw S:=aj Lm alv fun t depth c0 c1 Z=>aa k (yG k t depth c0 c1) (ah7 c0 c1 Z)
def UE:Fx S:=fp 27 [(218,ol (uy adS Je) (Ga k) (Ql k))] [] k f223 4
theorem aFd (ho:ai o):Tl o 223 (Gb k:Rw S):=ow (UE k) ⟨vw (JS k ho) (acw k ho),trivial⟩ func223 fun t depth c0 c1 Z x h=>pz h
def rn:Rw S:=aj Ln Uw fun i c0 Z=>aa k (tG k i c0) (ah8 c0 Z)
def Ce:Fx S:=fp 14 [(126,Od k)] [] k f225 1
theorem aAS (ho:ai o):Tl o 225 (rn k:Rw S):=ow (Ce k) ⟨sr k ho,trivial⟩ func225 fun i c0 Z x h=>pz h
def Og:Rw S:=aj Ln fh fun p c0 Z=>aa k (tH k p c0) (AR c0 Z)
def Cf:Fx S:=fp 5 [] [] k f226 1
theorem aav (ho:ai o):Tl o 226 (Og k:Rw S):=ow (Cf k) trivial func226 fun p c0 Z x h=>pz h
def Oh (hd:c8 S):Rw S:=aj Lm alv fun t depth c0 c1 Z=>hd t depth c0 c1 (D1 c0 c1 Z)
def Oi (hd:c8 S) (k:Nat):Rw S:=aj adV alw fun l depth c0 c1 c4 Z=>aa k (DK hd k l depth c0 c1 c4) (vB c0 c1 c4 Z)
def UF (hd:c8 S) (k:Nat):Fx S:=fp 42 [(181,Oh hd),(226,Og k)] [(3,⟨[(2,nP),(3,nP),(4,nP),(10,qn 100010),(15,nP),(16,nP),(17,nP)],[(4,[nP,nP]),(1000000,[nP]),(1000001,[nP]),(1000002,[nP]),(1000003,[nP]),(1000004,[nP])]⟩,ap 5 11)] k f224 5
def aBD (c0:Int) (c1:List Cl) (c4:Int) (l:List Tm) (depth:Int) (q:List Tm) (ox:Int):St UU:=⟨[(2,(iI depth)),(3,(.func 226 [] [(pt 1000004)])),(4,(pt 4)),(10,(.own 100010 0)),(15,(sT l)),(16,(iI l.length)),(17,(iI ox))],[(4,.cells [(.func 218 [] [(pt 1000000),(pt 1000001),(pt 1000002)]),(.func 218 [] [(pt 1000000),(pt 1000001),(pt 1000003)])]),(1000000,bI c0),(1000001,.cells [(sC c1)]),(1000002,.cells [(.func 221 [] [])]),(1000003,.cells [(.func 222 [] [])]),(1000004,bI c4)],[(100010,⟨0,ET.T,q⟩)],[(100010,.wr)]⟩
section
variable (hd:c8 S) (k:Nat) (l:List Tm) (depth c0:Int) (c1:List Cl) (c4:Int) (Z:Out UU->Option S)
theorem aDF: ∀n q ox,(UF hd k).lp Z 3 [] n (aBD c0 c1 c4 l depth q ox)=lW hd k (vB c0 c1 c4 Z) c0 c1 c4 l depth n q ox:=aL (wQ hd k (vB c0 c1 c4 Z) c0 c1 c4 l depth)
end
theorem aax (o:Obj) (ho:ai o) (hd:c8 S) (Hd:Tl o 181 (Oh hd)) (k:Nat):Tl o 224 (Oi hd k:Rw S):=ow (UF hd k) ⟨Hd,aav k ho,trivial⟩ func224 fun l depth c0 c1 c4 Z x h=>po (b:=HB hd k (vB c0 c1 c4 Z) (fun q ox=>(UF hd k).lp Z 3 [] k (aBD c0 c1 c4 l depth q ox)) l depth c0 c1 c4) (by kernel_rfl) (po (by simp only [aDF];rfl) (al h))
def Oj (hd:c8 S) (k:Nat):Rw S:=aj adW aJs fun l depth c0 c1 c4 Z=>aa k (DL hd k l depth c0 c1 c4) (H6 c0 c1 c4 Z)
def UG (hd:c8 S) (k:Nat):Fx S:=fp 42 [(181,Oh hd),(225,rn k)] [(3,⟨[(2,nP),(3,nP),(4,nP),(10,qn 100010),(15,nP),(16,nP),(17,nP)],[(4,[nP,nP]),(1000000,[nP]),(1000001,[nP]),(1000002,[nP]),(1000003,[nP]),(1000004,[nP,nP,nP,nP,nP,nP])]⟩,ap 5 11)] k f224 5
def aBE (c0:Int) (c1:List Cl) (c4:Tm) (l:List Tm) (depth:Int) (q:List Tm) (ox:Int):St UU:=⟨[(2,(iI depth)),(3,(.func 225 [] [(pt 1000004)])),(4,(pt 4)),(10,(.own 100010 0)),(15,(sT l)),(16,(iI l.length)),(17,(iI ox))],[(4,.cells [(.func 218 [] [(pt 1000000),(pt 1000001),(pt 1000002)]),(.func 218 [] [(pt 1000000),(pt 1000001),(pt 1000003)])]),(1000000,bI c0),(1000001,.cells [(sC c1)]),(1000002,.cells [(.func 221 [] [])]),(1000003,.cells [(.func 222 [] [])]),(1000004,bT c4)],[(100010,⟨0,ET.T,q⟩)],[(100010,.wr)]⟩
section
variable (hd:c8 S) (k:Nat) (l:List Tm) (depth c0:Int) (c1:List Cl) (c4:Tm) (Z:Out UU->Option S)
theorem aDG: ∀n q ox,(UG hd k).lp Z 3 [] n (aBE c0 c1 c4 l depth q ox)=lX hd k (H6 c0 c1 c4 Z) c0 c1 c4 l depth n q ox:=aL (wR hd k (H6 c0 c1 c4 Z) c0 c1 c4 l depth)
end
theorem aay (o:Obj) (ho:ai o) (hd:c8 S) (Hd:Tl o 181 (Oh hd)) (k:Nat):Tl o 224 (Oj hd k:Rw S):=ow (UG hd k) ⟨Hd,aAS k ho,trivial⟩ func224 fun l depth c0 c1 c4 Z x h=>po (b:=HC hd k (H6 c0 c1 c4 Z) (fun q ox=>(UG hd k).lp Z 3 [] k (aBE c0 c1 c4 l depth q ox)) l depth c0 c1 c4) (by kernel_rfl) (po (by simp only [aDG];rfl) (al h))
def Cg (hd:c8 S) (k:Nat):Fx S:=fp 98 [(218,Ql k),(223,Gb k),(224,ol (uy adV alw) (Oi hd k) (Oj hd k))] [(13,⟨[(2,nP),(3,nP),(6,nP),(8,nP),(10,nP),(53,nP),(54,nP),(55,nP)],[(3,[nP,nP]),(6,[nP,nP,nP,qn 200387,qn 200388,qn 200389]),(8,[nP,nP,nP,nP,nP,qn 200517]),(10,[nP]),(1000000,[nP]),(1000001,[nP]),(1000002,[nP]),(1000003,[nP])]⟩,ap 11 767)] k f181 4
def LU (c0:Int) (c1:List Cl) (t:Tm) (r1:List Cl×Int) (r2:List Tm×Int) (depth:Int) (x:Int) (q:List (Br Tm)) (v55:Int):St UU:=⟨[(2,(iI depth)),(3,(pt 3)),(6,(pt 6)),(8,(pt 8)),(10,(pt 10)),(53,(sB t.s)),(54,(iI t.s.length)),(55,(iI v55))],[(3,.cells [(.func 218 [] [(pt 1000000),(pt 1000001),(pt 1000002)]),(.func 218 [] [(pt 1000000),(pt 1000001),(pt 1000003)])]),(6,.cells [(iI 0),(iI 0),zu,(.own 200387 0),(.own 200388 0),(.own 200389 0)]),(8,.cells [(iI t.k),(iI t.n),(.str t.name),(sC r1.1),(sT r2.1),(.own 200517 0)]),(10,bI x),(1000000,bI c0),(1000001,.cells [(sC c1)]),(1000002,.cells [(.func 221 [] [])]),(1000003,.cells [(.func 222 [] [])])],[(200517,⟨0,ET.B,q⟩),(200389,xO),(200388,zm),(200387,xX)],[(200517,.wr),(200389,.wr),(200388,.wr),(200387,.wr)]⟩
section
variable (hd:c8 S) (k:Nat) (t:Tm) (depth c0:Int) (c1:List Cl) (Z:Out UU->Option S)
theorem W7 (r1 r2): ∀n x q v55,(Cg hd k).lp Z 13 [] n (LU c0 c1 t r1 r2 depth x q v55)=fV hd k (D1 c0 c1 Z) c0 c1 t r1 r2 depth n x q v55:=eW (wS hd k (D1 c0 c1 Z) c0 c1 t r1 r2 depth)
end
theorem e0 (o:Obj) (ho:ai o): ∀k:Nat,Tl o 181 (Oh (d7 k:c8 S))
 |0=>dz fun t depth c0 c1 Z x h=>by cases h
 |k+1=>ow (Cg (d7 k) k) ⟨acw k ho,aFd k ho,vw (aax o ho (d7 k) (e0 o ho k) k) (aay o ho (d7 k) (e0 o ho k) k),trivial⟩ func181 fun t depth c0 c1 Z x h=>po (b:=HF (d7 k) k (D1 c0 c1 Z) (fun r1 A z q v55=>(Cg (d7 k) k).lp Z 13 [] k (LU c0 c1 t r1 A depth z q v55)) t depth c0 c1) (by kernel_rfl) (po (by simp only [W7];rfl) h)
def Gc:Rw S:=aj Mr xn fun i Z=>aa k (DE k i) (aia Z)
def Ch:Fx S:=fp 8 [] [] k f182 0
theorem JU (ho:ai o):Tl o 182 (Gc k:Rw S):=ow (Ch k) trivial func182 fun i Z x h=>pz h
def Ok:Rw S:=aj lS xn fun s i Z=>aa k (pk k s i) (b_ Z)
def UH:Fx S:=fp 24 [(230,my k),(238,PE k)] [] k f228 0
theorem aaz (ho:ai o):Tl o 228 (Ok k:Rw S):=ow (UH k) ⟨nq k ho,k2 k ho,trivial⟩ func228 fun s i Z x h=>pz h
def rp:Rw S:=aj Lp fh fun f depth c0 Z=>aa k (pc k f depth c0) (J3 c0 Z)
def Ci:Fx S:=fp 37 [(172,Pp k),(228,Ok k)] [(3,⟨[(1,nP),(2,nP),(7,qn 100007),(10,nP),(11,nP),(12,nP)],[(1000000,[nP])]⟩,ap 5 11)] k f227 1
def LW (c0 depth:Int) (f:List Cl) (tg:Int) (q:List Cl):St UU:=⟨[(1,(iI depth)),(2,(pt 1000000)),(7,(.own 100007 0)),(10,(sC f)),(11,(iI f.length)),(12,(iI tg))],[(1000000,bI c0)],[(100007,⟨0,ET.C,q⟩)],[(100007,.wr)]⟩
section
variable (k:Nat) (f:List Cl) (depth c0:Int) (Z:Out UU->Option S)
theorem W9: ∀n tg q,(Ci k).lp Z 3 [] n (LW c0 depth f tg q)=z' k (J3 c0 Z) c0 depth f n tg q:=aL (wN k (J3 c0 Z) c0 depth f)
end
theorem aAT (ho:ai o):Tl o 227 (rp k:Rw S):=ow (Ci k) ⟨M1 k ho,aaz k ho,trivial⟩ func227 fun f depth c0 Z x h=>po (b:=Hx k (J3 c0 Z) (fun tg q=>(Ci k).lp Z 3 [] k (LW c0 depth f tg q)) f depth c0) (by kernel_rfl) (po (by simp only [W9];rfl) (al h))
def Om:Rw S:=aj adX fh fun t depth c0 Z=>aa k (yH k t depth c0) (J3 c0 Z)
def Cj:Fx S:=fp 27 [(227,rp k)] [] k f223 1
theorem aaB (ho:ai o):Tl o 223 (Om k:Rw S):=ow (Cj k) ⟨aAT k ho,trivial⟩ func223 fun t depth c0 Z x h=>pz h
def On (hd:c_ S):Rw S:=aj adX fh fun t depth c0 Z=>hd t depth c0 (ey c0 Z)
def A2 (hd:c_ S) (k:Nat):Rw S:=aj aBw ih fun l depth c0 c1 Z=>aa k (DI hd k l depth c0 c1) (AT c0 c1 Z)
def UJ (hd:c_ S) (k:Nat):Fx S:=fp 42 [(181,On hd),(226,Og k)] [(3,⟨[(2,nP),(3,nP),(4,nP),(10,qn 100010),(15,nP),(16,nP),(17,nP)],[(4,[nP,nP]),(1000000,[nP]),(1000001,[nP])]⟩,ap 5 11)] k f224 2
def aBF (c0 c1:Int) (l:List Tm) (depth:Int) (q:List Tm) (ox:Int):St UU:=⟨[(2,(iI depth)),(3,(.func 226 [] [(pt 1000001)])),(4,(pt 4)),(10,(.own 100010 0)),(15,(sT l)),(16,(iI l.length)),(17,(iI ox))],[(4,.cells [(.func 227 [] [(pt 1000000)]),(.func 227 [] [(pt 1000000)])]),(1000000,bI c0),(1000001,bI c1)],[(100010,⟨0,ET.T,q⟩)],[(100010,.wr)]⟩
section
variable (hd:c_ S) (k:Nat) (l:List Tm) (depth c0 c1:Int) (Z:Out UU->Option S)
theorem aDH: ∀n q ox,(UJ hd k).lp Z 3 [] n (aBF c0 c1 l depth q ox)=lU hd k (AT c0 c1 Z) c0 c1 l depth n q ox:=aL (wO hd k (AT c0 c1 Z) c0 c1 l depth)
end
theorem D9 (o:Obj) (ho:ai o) (hd:c_ S) (Hd:Tl o 181 (On hd)) (k:Nat):Tl o 224 (A2 hd k:Rw S):=ow (UJ hd k) ⟨Hd,aav k ho,trivial⟩ func224 fun l depth c0 c1 Z x h=>po (b:=Hz hd k (AT c0 c1 Z) (fun q ox=>(UJ hd k).lp Z 3 [] k (aBF c0 c1 l depth q ox)) l depth c0 c1) (by kernel_rfl) (po (by simp only [aDH];rfl) (al h))
def Ge (hd:c_ S) (k:Nat):Rw S:=aj Lq aJt fun l depth c0 c1 Z=>aa k (DJ hd k l depth c0 c1) (AU c0 c1 Z)
def UK (hd:c_ S) (k:Nat):Fx S:=fp 42 [(181,On hd),(225,rn k)] [(3,⟨[(2,nP),(3,nP),(4,nP),(10,qn 100010),(15,nP),(16,nP),(17,nP)],[(4,[nP,nP]),(1000000,[nP]),(1000001,[nP,nP,nP,nP,nP,nP])]⟩,ap 5 11)] k f224 2
def aBG (c0:Int) (c1:Tm) (l:List Tm) (depth:Int) (q:List Tm) (ox:Int):St UU:=⟨[(2,(iI depth)),(3,(.func 225 [] [(pt 1000001)])),(4,(pt 4)),(10,(.own 100010 0)),(15,(sT l)),(16,(iI l.length)),(17,(iI ox))],[(4,.cells [(.func 227 [] [(pt 1000000)]),(.func 227 [] [(pt 1000000)])]),(1000000,bI c0),(1000001,bT c1)],[(100010,⟨0,ET.T,q⟩)],[(100010,.wr)]⟩
section
variable (hd:c_ S) (k:Nat) (l:List Tm) (depth c0:Int) (c1:Tm) (Z:Out UU->Option S)
theorem aDI: ∀n q ox,(UK hd k).lp Z 3 [] n (aBG c0 c1 l depth q ox)=lV hd k (AU c0 c1 Z) c0 c1 l depth n q ox:=aL (wP hd k (AU c0 c1 Z) c0 c1 l depth)
end
theorem JV (o:Obj) (ho:ai o) (hd:c_ S) (Hd:Tl o 181 (On hd)) (k:Nat):Tl o 224 (Ge hd k:Rw S):=ow (UK hd k) ⟨Hd,aAS k ho,trivial⟩ func224 fun l depth c0 c1 Z x h=>po (b:=HA hd k (AU c0 c1 Z) (fun q ox=>(UK hd k).lp Z 3 [] k (aBG c0 c1 l depth q ox)) l depth c0 c1) (by kernel_rfl) (po (by simp only [aDI];rfl) (al h))
def Ck (hd:c_ S) (k:Nat):Fx S:=fp 98 [(223,Om k),(224,ol (uy aBw ih) (A2 hd k) (Ge hd k)),(227,rp k)] [(13,⟨[(2,nP),(3,nP),(6,nP),(8,nP),(10,nP),(53,nP),(54,nP),(55,nP)],[(3,[nP,nP]),(6,[nP,nP,nP,qn 200387,qn 200388,qn 200389]),(8,[nP,nP,nP,nP,nP,qn 200517]),(10,[nP]),(1000000,[nP])]⟩,ap 11 767)] k f181 1
def LY (c0:Int) (t:Tm) (r1:List Cl×Int) (r2:List Tm×Int) (depth:Int) (x:Int) (q:List (Br Tm)) (v55:Int):St UU:=⟨[(2,(iI depth)),(3,(pt 3)),(6,(pt 6)),(8,(pt 8)),(10,(pt 10)),(53,(sB t.s)),(54,(iI t.s.length)),(55,(iI v55))],[(3,.cells [(.func 227 [] [(pt 1000000)]),(.func 227 [] [(pt 1000000)])]),(6,.cells [(iI 0),(iI 0),zu,(.own 200387 0),(.own 200388 0),(.own 200389 0)]),(8,.cells [(iI t.k),(iI t.n),(.str t.name),(sC r1.1),(sT r2.1),(.own 200517 0)]),(10,bI x),(1000000,bI c0)],[(200517,⟨0,ET.B,q⟩),(200389,xO),(200388,zm),(200387,xX)],[(200517,.wr),(200389,.wr),(200388,.wr),(200387,.wr)]⟩
section
variable (hd:c_ S) (k:Nat) (t:Tm) (depth c0:Int) (Z:Out UU->Option S)
theorem Xa (r1 r2): ∀n x q v55,(Ck hd k).lp Z 13 [] n (LY c0 t r1 r2 depth x q v55)=LX hd k (ey c0 Z) c0 t r1 r2 depth n x q v55:=eW (wT hd k (ey c0 Z) c0 t r1 r2 depth)
end
theorem azi (o:Obj) (ho:ai o): ∀k:Nat,Tl o 181 (On (dT k:c_ S))
 |0=>dz fun t depth c0 Z x h=>by cases h
 |k+1=>ow (Ck (dT k) k) ⟨aaB k ho,vw (D9 o ho (dT k) (azi o ho k) k) (JV o ho (dT k) (azi o ho k) k),aAT k ho,trivial⟩ func181 fun t depth c0 Z x h=>po (b:=HG (dT k) k (ey c0 Z) (fun r1 A z q v55=>(Ck (dT k) k).lp Z 13 [] k (LY c0 t r1 A depth z q v55)) t depth c0) (by kernel_rfl) (po (by simp only [Xa];rfl) h)
def Oo:Rw S:=aj aBu xn fun t i rf Z=>aa k (m_ k t i rf) (BB Z)
def Cm:Fx S:=fp 48 [(160,PP k),(179,P7 k),(180,P8 k),(181,ol (uy Lm alv) (Oh (d7 k)) (On (dT k))),(182,Gc k)] [] k f129 0
theorem fC (ho:ai o):Tl o 129 (Oo k:Rw S):=ow (Cm k) ⟨jw k ho,ach k ho,aci k ho,vw (e0 o ho k) (azi o ho k),JU k ho,trivial⟩ func129 fun t i rf Z x h=>pz h
def jx:Rw S:=aj Lr fh fun t rf c0 Z=>aa k (JL k t rf c0) (AQ Z)
def UL:Fx S:=fp 18 [(81,P0 k),(82,IE k),(129,Oo k)] [] k f64 1
theorem j8 (ho:ai o):Tl o 64 (jx k:Rw S):=ow (UL k) ⟨K5 k ho,KX k ho,fC k ho,trivial⟩ func64 fun t rf c0 Z x h=>pz h
def Oq:Rw S:=aj Ls fh fun t c0 Z=>aa k (JI k t c0) (AQ Z)
def UM:Fx S:=fp 9 [(64,jx k),(130,Bg k)] [] k f65 1
theorem fB (ho:ai o):Tl o 65 (Oq k:Rw S):=ow (UM k) ⟨j8 k ho,Em k ho,trivial⟩ func65 fun t c0 Z x h=>pz h
end
end
end Go.Proofs.YtfffkmcpnggkdaaGreatDoor
