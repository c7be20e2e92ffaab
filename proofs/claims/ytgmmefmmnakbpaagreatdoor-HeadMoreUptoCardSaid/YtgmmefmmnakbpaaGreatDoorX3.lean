/- Part 3 of a proof: the sources, with their names and remarks, lie in wip/. -/
import Derived.Test.YtgmmefmmnakbpaaGreatDoorX2
import Derived.Test.YtgmmefmmnakbpaaGreatDoorRows
import Derived.ProofKit
import Derived.OpenShut
import Derived.ChangeArms
import Derived.Deep.Slices
import Derived.Shelf.SlSortCmp.NoneTotal
import Derived.Ground.SlsfProg
import Derived.Test.YtgmmefmmnakbpaaGreatDoorProg
import Derived.Shelf.Spec.TrailingZeros
import Derived.RangeFuncBound
import Derived.RangeFuncLeaves
import Derived.RangeFuncOwn
import Derived.OwnWalkIn
import Derived.TacticsInMore
import Derived.LoopNIn
import Derived.LoopIn
import Derived.Maps.RangeWalk
import Derived.Maps.AppendAt
import Derived.Test.YtgmmefmmnakbpaaGreatDoorCards
import Derived.Test.YtgmmefmmnakbpaaGreatDoorTie
import Derived.WalkKit
import Derived.ReadAgain
import Derived.Deep.DeepHandedRow
import Derived.Lib.LaidTab
import Derived.KernelRfl
open Array renaming getD_eq_getD_getElem?→as1,getElem?_eq_some_iff→asV
open Bool renaming and_eq_true→anZ,not_true→aq6
open ByteArray renaming empty→alH
open Eq renaming trans→alQ
open Go.IntKind renaming wrap→su
open Int renaming toNat_natCast→asG
open List renaming all_eq_true→ars,append_nil→arE,getElem?_eq_getElem→arN,getElem?_eq_some_iff→asn,length_cons→aq5,mem_append→atc,mem_cons→arH,mem_map→arR,nil_append→as2,range→arU
open Nat renaming beq→ar3,ble→aoy,le_refl→arq,zero_add→asW
open Option renaming bind→asP,bind_some→sf
set_option linter.unusedVariables false
set_option linter.unusedSimpArgs false
namespace Go.Proofs.YtgmmefmmnakbpaaGreatDoor
open Go PI
set_option maxRecDepth 20000
variable {S:Type} {k:Nat}
theorem u0:U32 0:=⟨by decide,by decide⟩
def nl (i:Int):Cl:=⟨0,e_ 0 i⟩
def pl (i:Int):Cl:=⟨e_ 0 i,0⟩
theorem FR (i:Int):RC (nl i):=⟨⟨by show (0:Int)<=0;decide,by show (0:Int)<16777216;decide⟩,ao2⟩
theorem F1 (i:Int):RC (pl i):=⟨ao2,⟨by show (0:Int)<=0;decide,by show (0:Int)<16777216;decide⟩⟩
def jI (c:Cl):LC:=(amp c.pos).map nl++(amp c.neg).map pl
def oj (c:Cl):LC×Int:=bp (jI c)
theorem Fi (s:Int):(amp s).length<=24:=by grind [amp,amb,gu]
theorem NV {c d:Cl} (h:d∈jI c):RC d:=by
 rcases atc.1 h with h|h<;>grind [FR,F1]
theorem ahw (c:Cl):(jI c).length<=48:=by
 grind [Fi,jI]
theorem LH {l:LC} (h: ∀c∈l,RC c) (hl:l.length<=64):(bp l).2=0:=by
 have:=agM l
 unfold bp
 rw [if_pos (ars.2 fun c hc=>(Bp (h c hc).ok).2 (h c hc)),if_neg (by omega)]
theorem NW (c:Cl):(oj c).2=0:=LH (fun d hd=>NV hd) (by have:=ahw c;omega)
theorem AC (c:Cl):RF (oj c).1:=qX (fun d hd=>(NV hd).ok) (NW c)
theorem afe (hk:Fu k) (I:LC×Int->OS S) {l:List Int} (hlen:l.length<=64):
  ∀ (r p:List Int) (m:Nat) (o:LC),l=p++r->r.length<m->aq o->o.length+r.length<1073741824->avc k I l m (p.length:Int) o=I (bp (o++r.map pl)):=by
 intro r
 induction r with
 |nil=>
  grind [amr,avc,w8,n3,ag,kX]
 |cons x r z=>
  intro p m o h A j ho
  obtain ⟨m,rfl,q⟩:=amr A
  obtain ⟨B,E,F,J⟩:=apy h (by omega)
  simp only [aq5] at ho
  simp only [avc,w8,B,ae,E,sf,ag hk,vV hk u0,F]
  rw [J5 (by grind),z (p++[x]) m _ J q (ami j fun c hc=>by simp at hc;subst hc;exact (F1 x).ok) (by grind)]
  simp [pl]
theorem afd (hk:Fu k) (I:LC×Int->OS S) {c:Cl} (hc:aX c) {l:List Int} (hlen:l.length<=64):
  ∀ (r p:List Int) (m:Nat) (o:LC),l=p++r->r.length<m->aq o->o.length+r.length<1000000->qh k I c l m (p.length:Int) o=I (bp (o++r.map nl++(amp c.neg).map pl)):=by
 intro r
 induction r with
 |nil=>
  intro p m o h z j ho
  obtain ⟨m,rfl,q⟩:=amr z
  simp only [List.length_nil] at ho
  have hl:=Fi c.neg
  have A:4294967296<=k:=hk
  simp only [qh,aoa,akb h,n3,vz,Ny hc.2,List.map_nil,arE]
  grind [afe]
 |cons x r B=>
  intro p m o h z j ho
  obtain ⟨m,rfl,q⟩:=amr z
  obtain ⟨E,F,J,L⟩:=apy h (by omega)
  simp only [aq5] at ho
  simp only [qh,aoa,E,ae,F,sf,ag hk,vV hk u0,J]
  rw [J5 (by grind),B (p++[x]) m _ L q (ami j fun c hc=>by simp at hc;subst hc;exact (FR x).ok) (by grind)]
  simp [nl]
theorem ajs (hk:Fu k) {c:Cl} (hc:aX c) (I:LC×Int->OS S):yV k c I=I (oj c):=by
 have hl:=Fi c.pos
 simp only [yV,HS,vz,Ny hc.1]
 have:=afd hk I hc (l:=amp c.pos) (by omega) (amp c.pos) [] k [] rfl (by omega) (fun c hc=>by cases hc) (by grind)
 grind [oj,jI]
def adU (step:LC->Cl->LC×Int):LC->LC->LC×Int
 |h,[]=>(h,0)
 |h,c::r=>if (step h c).2=0 then adU step (step h c).1 r else ([],(step h c).2)
def mn (h:LC) (c:Cl):LC×Int:=alV h (oj c).1
def alU (f:LC):LC×Int:=adU mn [⟨0,0⟩] f
theorem KG {step:LC->Cl->LC×Int} (hs: ∀h c,RF h->(step h c).2=0->RF (step h c).1): ∀ {r h:LC},RF h->(adU step h r).2=0->RF (adU step h r).1:=by
 intro r
 induction r<;>grind [adU]
theorem FS (h:LC) (c:Cl) (j:RF h) (q:(mn h c).2=0):RF (mn h c).1:=kS j.2 (AC c).2 q
theorem ju {f:LC} (h:(alU f).2=0):RF (alU f).1:=KG FS (gS oA) h
theorem bG (n:Int):(n==0)=decide (n=0):=by rfl
theorem ajr (hk:Fu k) {h:LC} {c:Cl} (j:RF h) (hc:aX c) (I:LC×Int->OS S):yU k h c I=I (mn h c):=by
 have:=j.len;have:=(AC c).len
 simp only [yU,ag hk,ajs hk hc,NW,vY hk j.2 (AC c).2 (show h.length<32768 by omega) (show (oj c).1.length<32768 by omega)]
 rfl
theorem aeS (hk:Fu k) (I:LC×Int->OS S) {l:LC} (hl:aq l) (hlen:l.length<2147483648):
  ∀ (r p:LC) (m:Nat) (h:LC),l=p++r->r.length<m->RF h->qe k I l m h (p.length:Int)=I (adU mn h r):=by
 intro r
 induction r with
 |nil=>
  intro p m h e j z
  obtain ⟨m,rfl,q⟩:=amr j
  simp only [qe,w5,akb e,n3];rfl
 |cons x r J=>
  intro p m h e j z
  obtain ⟨m,rfl,q⟩:=amr j
  obtain ⟨A,B,E,L⟩:=apy e (by omega)
  have F:aX x:=hl x (by grind)
  simp only [qe,w5,A,ae,B,sf,ag hk,ajr hk z F,bG,E]
  grind [n3,FS,adU,ae]
theorem Rq (hk:Fu k) {f:LC} (hf:aq f) (hlen:f.length<2147483648) (I:LC×Int->OS S):ph k f I=I (alU f):=by
 simp only [ph,ag hk,au3,DP,HP]
 exact aeS hk I hf hlen f [] k _ rfl (by omega) (gS oA)
theorem aja (hk:Fu k) {f:LC} (hf:aq f) (hlen:f.length<2147483648) (I:LC×Int->OS S):yQ k f I=I (if ary f then alU f else ([],2)):=by
 simp only [yQ,ag hk,Hc hk (l:=[f]) (by grind) (by simp),Rq hk hf hlen]
 have:[f].all ary=ary f:=by simp
 rw [this]
 by_cases h:ary f=true
 ·rw [if_pos h,if_pos h];rfl
 ·rw [if_neg h,if_neg h];rfl
def gap (i:Int) (c:Cl):Cl:=⟨alW c.pos i,alW c.neg i⟩
theorem kg (i:Int) (c:Cl):RC (gap i c):=⟨Jd,Jd⟩
def d_ (i:Int) (r:LC) (c:Cl):LC×Int:=if bP c.pos i then alV [gap i c] r else ([gap i c],0)
def amk (i:Int) (r:LC) (c:Cl) (g:LC):LC×Int:=if bP c.neg i then if (alU r).2=0 then alV g (alU r).1 else ([],(alU r).2) else (g,0)
def dY (i:Int) (r h:LC) (c:Cl):LC×Int:=
 if (d_ i r c).2=0 then if (amk i r c (d_ i r c).1).2=0 then alO h (amk i r c (d_ i r c).1).1 else ([],(amk i r c (d_ i r c).1).2) else ([],(d_ i r c).2)
def lL (i:Int):Bool:=decide (0<=i/\i<24)
def iH (f:LC) (i:Int) (r:LC):LC×Int:=if ary f&&ary r&&lL i then adU (dY i r) [] f else ([],2)
theorem ahI {i:Int} {r:LC} {c:Cl} (j:RF r) (h:(d_ i r c).2=0):RF (d_ i r c).1:=by
 unfold d_ at h ⊢
 split
 ·next q=>rw [if_pos q] at h;exact kS (gS (kg i c)).2 j.2 h
 simp_all [gS,kg]
theorem ahK {i:Int} {r g:LC} {c:Cl} (j:RF g) (h:(amk i r c g).2=0):RF (amk i r c g).1:=by
 unfold amk at h ⊢
 split
 ·next q=>
  rw [if_pos q] at h
  split
  ·next hn=>rw [if_pos hn] at h;exact kS j.2 (ju hn).2 h
  grind
 omega
theorem N5 {i:Int} {r:LC} (q:RF r) (h:LC) (c:Cl) (x:RF h) (j:(dY i r h c).2=0):RF (dY i r h c).1:=by
 unfold dY at j ⊢
 split
 ·next ha=>
  rw [if_pos ha] at j
  have hA:=ahI q ha
  split
  ·next hb=>rw [if_pos hb] at j;exact Lc x.2 (ahK hA hb).2 j
  grind
 grind
theorem aiU (hk:Fu k) {i:Int} {r h:LC} {c:Cl} (q:RF r) (z:RF h) (hc:aX c) (I:LC×Int->OS S):yS k h c i r I=I (dY i r h c):=by
 have J:=q.len;have L:=z.len
 have x:=gS (kg i c)
 simp only [yS,ag hk,vW hk hc.1,vW hk hc.2,rF hk hc.1,rF hk hc.2,vY hk x.2 q.2 (show [gap i c].length<32768 by simp) (show r.length<32768 by omega),Rq hk q.2 q.lt,bG,cH,decide_eq_true_eq,Bool.not_eq_true',decide_eq_false_iff_not]
 have e: ∀ (f:LC×Int->OS S),jW k [Cl.mk (alW c.pos i) (alW c.neg i)] r f=f (alV [gap i c] r):=fun f=>vY hk x.2 q.2 (by simp) (by omega) f
 simp only [e]
 unfold dY d_ amk
 by_cases hp:bP c.pos i=true
 ·simp only [hp,if_true]
  by_cases h1:(alV [gap i c] r).2=0
  ·have hA:RF (alV [gap i c] r).1:=kS x.2 q.2 h1
   have M:=hA.len
   simp only [h1,not_true,if_false,if_true]
   by_cases hn:bP c.neg i=true
   ·simp only [hn,if_true]
    by_cases h2:(alU r).2=0
    ·have j:=ju h2
     have B:=j.len
     simp only [h2,not_true,if_false,if_true]
     rw [vY hk hA.2 j.2 (by omega) (by omega)]
     by_cases A:(alV (alV [gap i c] r).1 (alU r).1).2=0
     ·have hB:=kS hA.2 j.2 A
      have E:=hB.len
      simp only [A,not_true,if_false,if_true]
      rw [Bz hk z.2 hB.2 (by omega) (by omega)]
     grind
    grind
   ·simp only [hn,Bool.false_eq_true,if_false,if_true]
    rw [Bz hk z.2 hA.2 (by omega) (by omega)]
  grind
 ·simp only [hp,Bool.false_eq_true,if_false,if_true]
  by_cases hn:bP c.neg i=true
  ·simp only [hn,if_true]
   by_cases h2:(alU r).2=0
   ·have j:=ju h2
    have B:=j.len
    simp only [h2,not_true,if_false,if_true]
    have F: ∀ (f:LC×Int->OS S),jW k [Cl.mk (alW c.pos i) (alW c.neg i)] (alU r).1 f=f (alV [gap i c] (alU r).1):=fun f=>vY hk x.2 j.2 (by simp) (by omega) f
    rw [F]
    by_cases A:(alV [gap i c] (alU r).1).2=0
    ·have hB:=kS x.2 j.2 A
     have E:=hB.len
     simp only [A,not_true,if_false,if_true]
     rw [Bz hk z.2 hB.2 (by omega) (by omega)]
    grind
   grind
  ·simp only [hn,Bool.false_eq_true,if_false,if_true]
   have:=Bz hk z.2 x.2 (by omega) (by simp) I
   exact this
theorem aeT (hk:Fu k) (I:LC×Int->OS S) {i:Int} {q:LC} (B:RF q) {l:LC} (hl:aq l) (hlen:l.length<2147483648):
  ∀ (r p:LC) (m:Nat) (h:LC),l=p++r->r.length<m->RF h->qc k I i q l m h (p.length:Int)=I (adU (dY i q) h r):=by
 intro r
 induction r with
 |nil=>
  intro p m h e j A
  obtain ⟨m,rfl,z⟩:=amr j
  simp only [qc,wZ,akb e,n3];rfl
 |cons x r M=>
  intro p m h e j A
  obtain ⟨m,rfl,z⟩:=amr j
  obtain ⟨E,F,J,O⟩:=apy e (by omega)
  have L:aX x:=hl x (by grind)
  simp only [qc,wZ,E,ae,F,sf,ag hk,aiU hk B A L,bG,J]
  grind [n3,N5,adU,ae]
theorem aiL (hk:Fu k) (i:Int) (I:LC×Int->OS S):yP k i I=I (if lL i then ([⟨e_ 0 i,0⟩],0) else ([],2)):=by
 simp only [yP,ag hk,vV hk u0]
 grind [lL,B7,Dz,n3,Dy,ae]
theorem ajb (hk:Fu k) {f r:LC} {i:Int} (hf:aq f) (j:aq r) (h1:f.length<2147483648) (h2:r.length<2147483648) (I:LC×Int->OS S):yR k f i r I=I (iH f i r):=by
 simp only [yR,ag hk,Hc hk (l:=[f,r]) (by grind) (by simp),aiL hk]
 have e:[f,r].all ary=(ary f&&ary r):=by simp
 unfold iH
 by_cases ha:(ary f&&ary r)=true
 ·rw [e,if_pos ha,ha,Bool.true_and]
  rw [show ((0:Int)==0)=true from rfl,aq6,n3]
  cases hd:lL i with
  |true=>
   rw [if_pos rfl,if_pos rfl]
   rw [show ((0:Int)==0)=true from rfl,aq6,n3]
   simp only [tK,DO,HO]
   have h:=(atQ j).1 (by grind)
   exact aeT hk I h hf h1 f [] k [] rfl (by omega) rA
  |false=>
   rfl
 simp_all [if_neg,ae]
theorem agr {m n b:Nat}:(amc m n b).1<16777216:=by
 have h1:m&&&M24<16777216:=Nat.lt_of_le_of_lt Nat.and_le_right (by decide)
 have h2:gO m n<=m&&&M24:=Nat.and_le_left
 unfold amc
 split
 ·omega
 ·split
  ·simp
  ·split
   ·simp
   ·exact Nat.or_lt_two_pow (n:=24) (by omega) (by omega)
theorem LK (s i b:Int):0<=(alS s i b).1/\(alS s i b).1<16777216:=by
 grind [alS,agr]
theorem LJ (c:Cl) (i b:Int):RC (dw c i b).1:=by
 unfold dw
 split
 ·split
  ·split
   ·exact ⟨LK _ _ _,LK _ _ _⟩
   ·exact oA
  ·exact oA
 ·exact oA
def dK (i b:Int) (h:LC) (c:Cl):LC×Int:=(h++[(dw c i b).1],(dw c i b).2)
def agS (f:LC) (i b:Int):LC×Int:=if ary f then if (adU (dK i b) [] f).2=0 then bp (adU (dK i b) [] f).1 else ([],(adU (dK i b) [] f).2) else ([],2)
theorem KH {i b:Int}: ∀ {r h:LC},aq h->aq (adU (dK i b) h r).1/\(adU (dK i b) h r).1.length<=h.length+r.length:=by
 intro r
 induction r with
 |nil=>intro h j;exact ⟨j,by show h.length<=_;omega⟩
 |cons c r q=>
  intro h j
  unfold adU
  split
  ·have:=q (h:=(dK i b h c).1) (ami j fun d hd=>by simp at hd;subst hd;exact (LJ c i b).ok)
   grind [dK]
  ·exact ⟨fun d hd=>(by cases hd),by simp⟩
theorem aeR (hk:Fu k) (I:LC×Int->OS S) {i b:Int} (A:aG i) (hb:aG b) {l:LC} (hl:aq l) (hlen:l.length<2147483648):
  ∀ (r p:LC) (m:Nat) (h:LC),l=p++r->r.length<m->h.length+r.length<4294967296->qf k I i b l m h (p.length:Int)=I (adU (dK i b) h r):=by
 intro r
 induction r with
 |nil=>
  intro p m h e j z
  obtain ⟨m,rfl,q⟩:=amr j
  simp only [qf,w6,akb e,n3];rfl
 |cons x r L=>
  intro p m h e j z
  obtain ⟨m,rfl,q⟩:=amr j
  obtain ⟨B,E,F,M⟩:=apy e (by omega)
  have J:aX x:=hl x (by grind)
  simp only [aq5] at z
  simp only [qf,w6,B,ae,E,sf,ag hk,DN,ai4 hk J A hb,bG,F]
  grind [J5,n3,adU,dK,ae]
theorem vX (hk:Fu k) {f:LC} {i b:Int} (hf:aq f) (hlen:f.length<1073741824) (x:aG i) (hb:aG b) (I:LC×Int->OS S):jV k f i b I=I (agS f i b):=by
 have q:=KH (i:=i) (b:=b) (r:=f) (h:=[]) (fun d hd=>by cases hd)
 simp only [List.length_nil] at q
 have j: ∀ (g:LC×Int->OS S),yT k f [] i b g=g (adU (dK i b) [] f):=fun g=>by
  simp only [yT,HQ]
  exact aeR hk g x hb hf (by omega) f [] k [] rfl (by omega) (by grind)
 simp only [jV,ag hk,Hc hk (l:=[f]) (by grind) (by simp),tK,j,kX hk q.1 (show _<2147483648 by omega)]
 grind [agS,n3,decide_eq_false,ae]
theorem kQ {f:LC} {i b:Int} (h:(agS f i b).2=0):RF (agS f i b).1:=by
 unfold agS at h ⊢
 split
 ·next j=>
  rw [if_pos j] at h
  split
  ·next q=>
   rw [if_pos q] at h
   exact qX (KH fun d hd=>by cases hd).1 h
  grind
 grind
theorem apW {f:LC} {i b:Int} (h:(agS f i b).2≠0):(agS f i b).1=[]:=by
 grind [agS,agf]
def AD (s:Nat) (f:LC):Nat:=f.foldl (fun s c=>s|||(c.pos.toNat|||c.neg.toNat)) s
def fS (f:LC):Nat:=AD 0 f&&&M24
def ie (f:LC):Int:=((fS f:Nat):Int)
def jJ (f:LC) (i:Nat):Bool:=f.any fun c=>c.pos.toNat.testBit i||c.neg.toNat.testBit i
theorem ahx (i:Nat): ∀ {f:LC} {s:Nat},(AD s f).testBit i=(s.testBit i||jJ f i):=by
 intro f
 induction f<;>simp_all [AD,jJ,Bool.or_assoc]
theorem D7 (f:LC) (i:Nat):(fS f).testBit i=(jJ f i&&decide (i<24)):=by
 grind [fS,g8,ahx]
theorem D6 (f:LC):fS f<16777216:=Nat.lt_of_le_of_lt Nat.and_le_right (by decide)
theorem aeB (hk:Fu k) (I:Int->OS S) {l:LC} (hl:aq l) (hlen:l.length<4294967296):
  ∀ (r p:LC) (m:Nat) (s:Nat),l=p++r->r.length<m->s<4294967296->qb k I l m (s:Int) (p.length:Int)=I (((AD s r&&&M24:Nat):Int)):=by
 intro r
 induction r with
 |nil=>
  intro p m s e q hs
  obtain ⟨m,rfl,j⟩:=amr q
  simp only [qb,wY,akb e,n3,ag hk,vW hk (U32.of hs)]
  rfl
 |cons x r z=>
  intro p m s e q hs
  obtain ⟨m,rfl,j⟩:=amr q
  obtain ⟨A,B,E,F⟩:=apy e (by omega)
  have h:aX x:=hl x (by grind)
  have ho:U32 (ep x.pos x.neg):=FX h.1 h.2
  have J:s|||(x.pos.toNat|||x.neg.toNat)<4294967296:=by
   have h1:=h.1.1;have h2:=h.1.2;have M:=h.2.1;have O:=h.2.2
   have L:(2:Nat)^32=4294967296:=by decide
   exact Nat.or_lt_two_pow (n:=32) hs (Nat.or_lt_two_pow (n:=32) (by omega) (by omega))
  have es:ep (s:Int) (ep x.pos x.neg)=((s|||(x.pos.toNat|||x.neg.toNat):Nat):Int):=by rfl
  simp only [qb,wY,A,ae,B,sf,awS h.1 h.2,awS (U32.of hs) ho,E,es]
  exact z (p++[x]) m _ F j J
theorem Ha (hk:Fu k) {f:LC} (hf:aq f) (hlen:f.length<4294967296) (I:Int->OS S):jc k f I=I (ie f):=by
 simp only [jc,HL]
 exact aeB hk I hf hlen f [] k 0 rfl (by omega) (by decide)
def dg (f:LC) (d:Int):Bool:=decide (∀i∈bW (fS f),(i:Int)<d)
theorem RZ (hk:Fu k) {f:LC} {d:Int} (hf:aq f) (hlen:f.length<4294967296) (hd:0<=d) (j:d<9223372036854775808) (I:Bool->OS S):lK k f d I=I (dg f d):=by
 simp only [lK,aY,ag hk,Ha hk hf hlen]
 by_cases h:d>=24
 ·grind [dg,mem_bitsN]
 ·rw [if_neg h]
  obtain ⟨n,rfl⟩: ∃n:Nat,d=n:=⟨d.toNat,by omega⟩
  rw [iR n (by omega),yq (by omega),asG,Nat.min_eq_left (by omega)]
  congr 1
  rw [ie,Es,dg,Bool.eq_iff_iff]
  simp only [beq_iff_eq,decide_eq_true_eq]
  have hdiv:(fS f/2^n=0)↔fS f<2^n:=Nat.div_eq_zero_iff_lt (Nat.two_pow_pos n)
  constructor
  ·grind [mem_bitsN,Nat.lt_of_lt_of_le,Nat.pow_le_pow_right,Nat.testBit_lt_two_pow]
  ·intro q
   have:fS f<2^n:=by
    apply Nat.lt_pow_two_of_testBit
    grind [mem_bitsN,oZ,D6]
   omega
def kz (c:Cl):Bool:= !bS c
def dv (l:LC):LC:=l.filter kz
def cV (f:LC):Bool:=ary f&&f.all fun c=> !bS c
def RFa (f:LC):Prop:=RF f/\ ∀c∈f,bS c=false
theorem oB {f:LC} (h:aq f):cV f=true↔RFa f:=by
 grind [cV,RFa,atQ]
theorem RFa.right {f:LC} (h:RFa f):cV f=true:=(oB h.1.2).2 h
theorem Ds {l:LC} {c:Cl} (h:c∈dv l):c∈l/\bS c=false:=by
 have:=List.mem_filter.1 h
 grind [kz]
theorem Jz {l:LC} (h:aq l):aq (dv l):=fun c hc=>h c (Ds hc).1
theorem LG {l:LC} (hl:aq l) (hc: ∀c∈l,bS c=false) (h:(bp l).2=0):RFa (bp l).1:=by
 refine ⟨qX hl h,fun c j=> ?_⟩
 grind [bp,mem_mins]
theorem GW:RFa []:=⟨rA,fun c hc=>by cases hc⟩
theorem Bn {c:Cl} (h:RC c) (h':bS c=false):RFa [c]:=⟨gS h,fun d hd=>by grind⟩
theorem Jy (l:LC):(dv l).length<=l.length:=List.length_filter_le _ _
theorem aeq (hk:Fu k) (I:Int->OS S) {l:LC} (hl:aq l) (hlen:l.length<2147483648):
  ∀ (r p:LC) (m:Nat),l=p++r->r.length<m-> ∃v:Int,decide (v>=0)=r.any bS/\qP k I l m (p.length:Int)=I v:=by
 intro r
 induction r with
 |nil=>
  intro p m h q
  obtain ⟨m,rfl,j⟩:=amr q
  exact ⟨-1,rfl,by grind [qP,yd,n3]⟩
 |cons x r z=>
  intro p m h q
  obtain ⟨m,rfl,j⟩:=amr q
  obtain ⟨B,E,F,A⟩:=apy h (by omega)
  have J:aX x:=hl x (by grind)
  obtain ⟨v,hv,L⟩:=z (p++[x]) m A j
  grind [qP,yd,ae,ag,Rf,n3]
theorem Hb (hk:Fu k) {f:LC} (hf:aq f) (hlen:f.length<2147483648) (I:Bool->OS S):pd k f I=I (cV f):=by
 obtain ⟨v,hv,j⟩:=aeq hk (fun r1:Int=>(fun h:Bool=>I (!h)) (decide (r1>=0))) hf hlen f [] k rfl (by omega)
 simp only [pd,ag hk,rH hk hf hlen,DU,DW,IN]
 grind [cV,ary,ae,n3]
theorem aGQ (hk:Fu k) (I:Int->OS S) {l:List (LC)} (hl: ∀f∈l,aq f/\f.length<2147483648) (hlen:l.length<4294967296):
  ∀ (r p:List (LC)) (m:Nat),l=p++r->r.length<m->avO k I l m (p.length:Int)=I (if r.all cV then 0 else 2):=by
 intro r
 induction r with
 |nil=>
  grind [amr,avO,aw2,n3]
 |cons x r z=>
  intro p m h j
  obtain ⟨m,rfl,q⟩:=amr j
  obtain ⟨A,B,E,F⟩:=apy h (by omega)
  have J:=hl x (by grind)
  grind [avO,aw2,ae,ag,Hb,n3]
theorem aH9 (hk:Fu k) {l:List (LC)} (hl: ∀f∈l,aq f/\f.length<2147483648) (hlen:l.length<4294967296) (I:Int->OS S):axw k l I=I (if l.all cV then 0 else 2):=by
 simp only [axw,az8]
 exact aGQ hk I hl hlen l [] k rfl (by omega)
def gN (l:LC):LC×Int:=bp (dv l)
def ofS (f:LC):LC×Int:=if ary f then gN f else ([],2)
def ofZ (f:LC):LC×Int:=if ary f then if (alU f).2=0 then gN (alU f).1 else ([],(alU f).2) else ([],2)
theorem Fc {l:LC} (hl:aq l) (h:(gN l).2=0):RFa (gN l).1:=LG (Jz hl) (fun c hc=>(Ds hc).2) h
theorem FT {f:LC} (h:(ofS f).2=0) (hf:aq f):RFa (ofS f).1:=by
 grind [ofS,Fc]
theorem FU {f:LC} (h:(ofZ f).2=0) (hf:aq f):RFa (ofZ f).1:=by
 unfold ofZ at h ⊢
 split
 ·next q=>
  rw [if_pos q] at h
  split
  ·next j=>rw [if_pos j] at h;exact Fc (ju j).2 h
  grind
 grind
theorem Rn (hk:Fu k) {c:Cl} (hc:aX c) (I:Cl×Bool->OS S):tJ k c I=I (c,kz c):=by
 simp only [tJ,ag hk,Rf hk hc];rfl
theorem ae0 (hk:Fu k) (I:LC->OS S) {l:LC} (hl:aq l) (hlen:l.length<2147483648):
  ∀ (r p:LC) (m:Nat) (o:LC),l=p++r->r.length<m->o.length+r.length<4294967296->avM k I l m (p.length:Int) o=I (o++dv r):=by
 intro r
 induction r with
 |nil=>
  grind [amr,avM,wW,n3,dv]
 |cons x r F=>
  intro p m o h j ho
  obtain ⟨m,rfl,q⟩:=amr j
  obtain ⟨z,A,B,J⟩:=apy h (by omega)
  have E:aX x:=hl x (by grind)
  simp only [aq5] at ho
  simp only [avM,wW,z,ae,A,sf,ag hk,Rn hk E,B]
  grind [ae,J5,dv,n3]
theorem aji (hk:Fu k) {l:LC} (hl:aq l) (hlen:l.length<2147483648) (I:LC->OS S):yN k l I=I (dv l):=by
 simp only [yN,HJ]
 have:=ae0 hk I hl hlen l [] k [] rfl (by omega) (by grind)
 grind
theorem Rp (hk:Fu k) {f:LC} (hf:aq f) (hlen:f.length<2147483648) (I:LC×Int->OS S):tI k f I=I (ofS f):=by
 have:=Jy f
 simp only [tI,ag hk,rH hk hf hlen,aji hk hf hlen,kX hk (Jz hf) (show (dv f).length<2147483648 by omega)]
 unfold ofS
 cases ary f with
 |true=>rfl
 |false=>rfl
theorem ajd (hk:Fu k) {f:LC} (hf:aq f) (hlen:f.length<2147483648) (I:LC×Int->OS S):yI k f I=I (ofZ f):=by
 simp only [yI,ag hk,aja hk hf hlen,bG]
 unfold ofZ
 cases ary f with
 |true=>
  rw [if_pos rfl,if_pos rfl]
  by_cases h:(alU f).2=0
  ·have j:=ju h
   rw [decide_eq_true h,aq6,n3,if_pos h,Rp hk j.2 j.lt]
   unfold ofS
   rw [if_pos j.right]
  grind [ae]
 |false=>
  rfl
def amd (f g:LC):LC×Int:=gN (meets f g)
def EQ (f g:LC):LC×Int:=if cV f&&cV g then alO f g else ([],2)
theorem ajf (hk:Fu k) {f g:LC} (hf:aq f) (h:aq g) (h1:f.length<1073741824) (h2:g.length<1073741824) (I:LC×Int->OS S):yL k f g I=I (alO f g):=by
 simp only [yL,ag hk,as2]
 rw [J5 (by grind),J5 (by omega),kX hk (ami hf h) (by grind)]
 rfl
theorem aH8 (hk:Fu k) {f g:LC} (hf:aq f) (h:aq g) (h1:f.length<1073741824) (h2:g.length<1073741824) (I:LC×Int->OS S):axv k f g I=I (EQ f g):=by
 simp only [axv,ag hk,aH9 hk (l:=[f,g]) (by grind) (by simp),ajf hk hf h h1 h2]
 have e:[f,g].all cV=(cV f&&cV g):=by simp
 unfold EQ
 rw [e]
 cases (cV f&&cV g)<;>grind [n3,ae]
theorem Af {f g:LC} (hf:RFa f) (j:RFa g) (h:(alO f g).2=0):RFa (alO f g).1:=
 LG (ami hf.1.2 j.1.2) (fun c hc=>by
  rcases atc.1 hc with h|h
  ·exact hf.2 c h
  ·exact j.2 c h) h
theorem ajc (hk:Fu k) {b c:Cl} (hb:aX b) (hc:aX c) (I:Cl×Bool->OS S):yO k b c I=I (d9 c b,kz (d9 c b)):=by
 simp_all [yO,ag,G_,Rn,Aw]
theorem ae1 (hk:Fu k) (I:LC->OS S) {c:Cl} (hc:aX c) {l:LC} (hl:aq l) (hlen:l.length<2147483648):
  ∀ (r p:LC) (m:Nat) (o:LC),l=p++r->r.length<m->o.length+r.length<4294967296->p8 k I c l m (p.length:Int) o=I (o++dv (r.map (d9 c))):=by
 intro r
 induction r with
 |nil=>
  intro p m o h j ho
  obtain ⟨m,rfl,q⟩:=amr j
  grind [p8,wV,n3,dv]
 |cons x r F=>
  intro p m o h j ho
  obtain ⟨m,rfl,q⟩:=amr j
  obtain ⟨z,A,B,J⟩:=apy h (by omega)
  have E:aX x:=hl x (by grind)
  simp only [aq5] at ho
  simp only [p8,wV,z,ae,A,sf,ag hk,ajc hk E hc,B]
  cases hb:kz (d9 c x)<;>grind [ae,J5,dv,n3]
theorem ajj (hk:Fu k) {c:Cl} (hc:aX c) {l:LC} (hl:aq l) (hlen:l.length<2147483648) (I:LC->OS S):yM k l c I=I (dv (l.map (d9 c))):=by
 simp only [yM,HI]
 have:=ae1 hk I hc hl hlen l [] k [] rfl (by omega) (by grind)
 grind
theorem aeO (hk:Fu k) (I:LC×Int->OS S) {g f:LC} (hf:aq f) (B:aq g) (F:f.length<32768) (J:g.length<32768):
  ∀ (r p:LC) (m:Nat) (o:LC),f=p++r->r.length<m->aq o->o.length+r.length*g.length<1073741825->p_ k I g f m (p.length:Int) o=I (bp (o++dv (meets r g))):=by
 intro r
 induction r with
 |nil=>
  intro p m o h z j ho
  obtain ⟨m,rfl,q⟩:=amr z
  grind [p_,wX,n3,ag,kX,meets,dv]
 |cons x r L=>
  intro p m o h z j ho
  obtain ⟨m,rfl,q⟩:=amr z
  obtain ⟨M,O,T,W⟩:=apy h (by omega)
  have E:aX x:=hf x (by grind)
  have hmul:(x::r).length*g.length=r.length*g.length+g.length:=by grind
  rw [hmul] at ho
  have A:=Jy (g.map (d9 x))
  rw [List.length_map] at A
  simp only [p_,wX,M,ae,O,sf,ag hk,ajj hk E B (show g.length<2147483648 by omega),T]
  rw [J5 (by omega),L (p++[x]) m _ W q (ami j fun c hc=>by
   obtain ⟨b,hb,rfl⟩:=arR.1 (Ds hc).1
   exact Aw E (B b hb)) (by grind)]
  grind [dv,meets]
theorem ajg (hk:Fu k) {f g:LC} (hf:aq f) (h:aq g) (h1:f.length<32768) (h2:g.length<32768) (I:LC×Int->OS S):pe k f g I=I (amd f g):=by
 simp only [pe,HK]
 have hb:f.length*g.length<1073741824:=Nat.lt_of_le_of_lt (Nat.mul_le_mul (Nat.le_of_lt_succ h1) (Nat.le_of_lt_succ h2)) (by decide)
 have:=aeO hk I hf h h1 h2 f [] k [] rfl (by omega) (fun c hc=>by cases hc) (by grind)
 grind [amd,gN]
theorem vo {f g:LC} (hf:aq f) (j:aq g) (h:(amd f g).2=0):RFa (amd f g).1:=Fc (ND hf j) h
theorem Um {s i:Int} {j:Nat} (h:(alW s i).toNat.testBit j=true):s.toNat.testBit j=true:=by
 grind [alW,asG,mm]
theorem calm_bits {c:Cl}:bS c=false↔ ∀j,¬ (c.pos.toNat.testBit j=true/\c.neg.toNat.testBit j=true):=by
 unfold bS
 rw [Bool.not_eq_false',decide_eq_true_eq]
 constructor
 ·intro h j ⟨h1,h2⟩
  have:(c.pos.toNat&&&c.neg.toNat).testBit j=true:=by grind
  grind
 ·intro h
  apply Nat.eq_of_testBit_eq
  grind
theorem Aa {c:Cl} {i:Int} (h:bS c=false):bS (gap i c)=false:=by
 rw [calm_bits] at h ⊢
 exact fun j ⟨h1,h2⟩=>h j ⟨Um h1,Um h2⟩
def al8 (i:Int) (c:Cl) (h:LC) (q:LC×Int):LC×Int:=
 if q.2=0 then if (amd [gap i c] q.1).2=0 then alO h (amd [gap i c] q.1).1 else ([],(amd [gap i c] q.1).2) else ([],q.2)
def alL (i:Int) (r h:LC) (c:Cl):LC×Int:=
 if bP c.pos i then al8 i c h (ofS r) else if bP c.neg i then al8 i c h (ofZ r) else alO h [gap i c]
def iG (f:LC) (i:Int) (r:LC):LC×Int:=if cV f&&ary r&&lL i then adU (alL i r) [] f else ([],2)
theorem N6 {i:Int} {c:Cl} {h:LC} {q:LC×Int} (x:RFa h) (z:q.2=0->RFa q.1) (j:(al8 i c h q).2=0):RFa (al8 i c h q).1:=by
 unfold al8 at j ⊢
 split
 ·next h1=>
  rw [if_pos h1] at j
  split
  ·next h2=>rw [if_pos h2] at j;exact Af x (vo (gS (kg i c)).2 (z h1).1.2 h2) j
  grind
 grind
theorem ahL {i:Int} {r h:LC} {c:Cl} (q:RF r) (x:RFa h) (hc:bS c=false) (j:(alL i r h c).2=0):RFa (alL i r h c).1:=by
 unfold alL at j ⊢
 split
 ·next h1=>rw [if_pos h1] at j;exact N6 x (fun h=>FT h q.2) j
 ·next h1=>
  rw [if_neg h1] at j
  split
  ·next h2=>rw [if_pos h2] at j;exact N6 x (fun h=>FU h q.2) j
  grind [Af,Bn,kg,Aa]
theorem acX {i:Int} {r:LC} (j:RF r): ∀ {l h:LC},(∀c∈l,bS c=false)->RFa h->(adU (alL i r) h l).2=0->RFa (adU (alL i r) h l).1:=by
 intro l
 induction l<;>grind [adU,ahL]
theorem ahO {f r:LC} {i:Int} (hf:aq f) (j:aq r) (h:(iG f i r).2=0):RFa (iG f i r).1:=by
 unfold iG at h ⊢
 split
 ·next hc=>
  rw [if_pos hc] at h
  simp only [anZ] at hc
  exact acX ((atQ j).1 hc.1.2) ((oB hf).1 hc.1.1).2 GW h
 grind
theorem faJ (hk:Fu k) (I:LC×Int->OS S) (x:Int->LC->OS S) (i:Int) (r f:LC) {h:LC} {v:Int} {g:LC} {e:Int} (A:RF h) (B:e=0->RF g):
  p7 k I x i r f v h k g e=if e=0 then if (alO h g).2=0 then x (su .i64 (v+1)) (alO h g).1 else I ([],(alO h g).2) else I ([],e):=by
 obtain ⟨q,E⟩: ∃q,k=q+1:=⟨k-1,by omega⟩
 have: ∀j,j=q+1->p7 k I x i r f v h j g e=wU k I i r f v h x g e:=by rintro j rfl;rfl
 rw [this k E]
 simp only [wU,bG]
 by_cases z:e=0
 ·have F:=A.len;have J:=(B z).len
  rw [decide_eq_true z,ae,if_pos z,ag hk,ajf hk A.2 (B z).2 (by omega) (by omega)]
  grind [n3,ae]
 grind [n3,ae]
theorem aeP (hk:Fu k) (I:LC×Int->OS S) {i:Int} {q:LC} (j:RF q) {l:LC} (hl:aq l) (hc: ∀c∈l,bS c=false) (hlen:l.length<2147483648):
  ∀ (r p:LC) (m:Nat) (h:LC),l=p++r->r.length<m->RFa h->lY k I i q l m (p.length:Int) h=I (adU (alL i q) h r):=by
 intro r
 induction r with
 |nil=>
  intro p m h e B O
  obtain ⟨m,rfl,E⟩:=amr B
  simp only [lY,sr,akb e,n3];rfl
 |cons x r Y=>
  intro p m h e B O
  obtain ⟨m,rfl,E⟩:=amr B
  obtain ⟨T,W,e3,e4⟩:=apy e (by omega)
  have A:aX x:=hl x (by grind)
  have F:bS x=false:=hc x (by grind)
  have J:=Bn (kg i x) (Aa F)
  have key: ∀ (g:LC) (e:Int),(e=0->RFa g)->(alL i q h x=if e=0 then alO h g else ([],e))->p7 k I (lY k I i q l m) i q l (p.length:Int) h k g e=I (adU (alL i q) h (x::r)):=by
   intro g e L z
   rw [faJ hk _ _ _ _ _ O.1 (fun h=>(L h).1),adU,z]
   grind [Af]
  have em: ∀ (s:LC),RF s-> ∀ (f:LC×Int->OS S),pe k [Cl.mk (alW x.pos i) (alW x.neg i)] s f=f (amd [gap i x] s):=fun s hs f=>ajg hk J.1.2 hs.2 (by simp) (by have:=hs.len;omega) f
  simp only [lY,sr,T,ae,W,sf,ag hk,vW hk A.1,vW hk A.2,rF hk A.1,rF hk A.2,Rp hk j.2 j.lt,ajd hk j.2 j.lt,bG]
  cases hp:bP x.pos i with
  |true=>
   rw [ae]
   by_cases h1:(ofS q).2=0
   ·have ho:=FT h1 j.2
    rw [decide_eq_true h1,ae,em _ ho.1]
    exact key _ _ (fun M=>vo J.1.2 ho.1.2 M) (by grind [alL,al8])
   grind [n3,alL,al8]
  |false=>
   rw [n3]
   cases hn:bP x.neg i with
   |true=>
    rw [ae]
    by_cases h1:(ofZ q).2=0
    ·have ho:=FU h1 j.2
     rw [decide_eq_true h1,ae,em _ ho.1]
     exact key _ _ (fun M=>vo J.1.2 ho.1.2 M) (by grind [alL,al8])
    grind [n3,alL,al8]
   |false=>
    grind [n3,gap,alL]
theorem aje (hk:Fu k) {f r:LC} {i:Int} (hf:aq f) (h:aq r) (h1:f.length<2147483648) (h2:r.length<2147483648) (I:LC×Int->OS S):yJ k f i r I=I (iG f i r):=by
 simp only [yJ,HH,ag hk,Hb hk hf h1,ai8 hk,rH hk h h2]
 unfold iG lL
 cases ha:cV f with
 |false=>rfl
 |true=>
  rw [aq6,n3]
  by_cases hd:0<=i/\i<24
  ·rw [decide_eq_true hd,aq6,n3]
   cases hb:ary r with
   |false=>rfl
   |true=>
    rw [aq6,n3]
    exact aeP hk I ((atQ h).1 hb) hf ((oB hf).1 ha).2 h1 f [] k [] rfl (by omega) GW
  grind [ae]
end Go.Proofs.YtgmmefmmnakbpaaGreatDoor
namespace Go.Proofs.YtgmmefmmnakbpaaGreatDoor
open Go PI
mutual
def au:Tm->Nat
 | .mk _ _ _ _ h sys=>1+ay h+aI sys
def ay:LT->Nat
 |[]=>0
 |t::l=>au t+ay l
def aI:LB->Nat
 |[]=>0
 |b::l=>fG b+aI l
def fG:Br Tm->Nat
 | .mk _ h=>ay h
end
mutual
def am:Tm->Nat
 | .mk _ _ _ _ h sys=>max (aH h) (aO sys)+1
def aH:LT->Nat
 |[]=>0
 |t::l=>max (am t) (aH l)
def aO:LB->Nat
 |[]=>0
 |b::l=>max (eB b) (aO l)
def eB:Br Tm->Nat
 | .mk _ h=>aH h
end
theorem kZ (b:Br Tm):fG b=ay b.kids:=by cases b;rw [fG]
theorem pD (b:Br Tm):eB b=aH b.kids:=by cases b;rw [eB]
theorem mB (t:Tm):1<=au t:=by cases t;rw [au];omega
theorem k_: ∀ {l:LT} {x:Tm},x∈l->au x<=ay l:=by
 intro l
 induction l<;>grind [ay]
theorem we: ∀ {l:LB} {b:Br Tm},b∈l->ay b.kids<=aI l:=by
 intro l
 induction l<;>grind [aI,kZ]
theorem D0: ∀ {l:LT} {x:Tm},x∈l->am x<=aH l:=by
 intro l
 induction l<;>grind [aH]
theorem JP: ∀ {l:LB} {b:Br Tm},b∈l->aH b.kids<=aO l:=by
 intro l
 induction l<;>grind [aO,pD]
theorem gq {Q:Tm->Prop} (h: ∀kd n nm r ks sys,(∀x∈ks,Q x)->(∀b∈sys,∀x∈b.kids,Q x)->Q (.mk kd n nm r ks sys)) (t:Tm):Q t:=by
 have: ∀m t,au t<=m->Q t:=by
  intro m
  induction m with
  |zero=>grind [mB]
  |succ m q=>
   intro t z
   cases t with
   |mk kd n nm r ks sys=>
    rw [au] at z
    refine h _ _ _ _ _ _ (fun x j=>q x ?_) fun b hb x j=>q x ?_
    ·have:=k_ j;omega
    ·have:=we hb;have:=k_ j;omega
 exact this _ t (arq _)
def kidsT:List Int:=[-1,0,0,0,2,1,2,2,2,1,1,3,1,3,2,2,1,1,1,0,0,0,4,1,0,0,1,5,2]
def ct (kd:Int):Int:=if kd<0\/kd>28 then-1 else kidsT.getD kd.toNat 0
def arJ (kd i:Int):Int:=if (i=1/\(kd=4\/kd=7))\/(i=0/\(kd=5\/kd=22\/kd=27)) then 1 else 0
def bJ (kd i:Int):Int:=if i=0/\(kd=11\/kd=12\/kd=14) then 1 else 0
def cz (kd:Int):Int:=if kd=16 then 2 else if kd=15\/kd=17\/kd=18 then 1 else 0
def av (kd:Int):Int:=if kd=15 then 1 else 0
theorem g7 (kd i:Int):0<=arJ kd i/\arJ kd i<=1:=by grind [arJ]
theorem gr (kd i:Int):0<=bJ kd i/\bJ kd i<=1:=by grind [bJ]
theorem atj (kd:Int):0<=av kd/\av kd<=1:=by grind [av]
def kP (c:UInt8):Bool:=(decide (97<=c.toNat)&&decide (c.toNat<=122))||(decide (65<=c.toNat)&&decide (c.toNat<=90))||decide (c.toNat=95)
def pG (c:UInt8):Bool:=decide (48<=c.toNat)&&decide (c.toNat<=57)
def awR:List UInt8->Bool
 |[]=>false
 |c::l=>kP c&&l.all fun d=>kP d||pG d
def bX (kd dims:Int) (b:Br Tm):Bool:=decide ((b.kids.length:Int)=cz kd)&&(cV b.face&&dg b.face dims)
def cL (vars dims:Int):Tm->Bool
 | .mk kd n h r j sys=>
  (decide (ct kd=j.length)&&(decide (kd=1\/n=0)&&(decide (kd=2\/h.size=0)&&decide (cz kd=0->sys.length=0))))&&
  (if kd=1 then decide (r.length=0)&&(decide (0<=n)&&decide (vars<0\/n<vars))
   else if kd=2 then decide (r.length=0)&&awR h.data.toList
   else if kd=13\/kd=21\/kd=26 then ary r&&dg r dims
   else if kd=14 then cV r&&dg r dims
   else sys.all (bX kd dims)&&decide (r.length=0))
def cQ (vars v:Int):Int:=if vars<0 then vars else vars+v
mutual
def aqp (bd:Bool) (vars dims:Int):Tm->Bool
 | .mk kd n j r h sys=> !(bd&&decide (dims>24))&&(cL vars dims (.mk kd n j r h sys)&&(bO bd vars dims kd 0 h&&ck bd vars dims kd sys))
def bO (bd:Bool) (vars dims kd:Int) (i:Nat):LT->Bool
 |[]=>true
 |t::l=>aqp bd (cQ vars (arJ kd i)) (dims+bJ kd i) t&&bO bd vars dims kd (i+1) l
def ck (bd:Bool) (vars dims kd:Int):LB->Bool
 |[]=>true
 |b::l=>jT bd vars dims kd b&&ck bd vars dims kd l
def jT (bd:Bool) (vars dims kd:Int):Br Tm->Bool
 | .mk _ h=>ca bd vars dims kd h
def ca (bd:Bool) (vars dims kd:Int):LT->Bool
 |[]=>true
 |t::l=>aqp bd vars (dims+av kd) t&&ca bd vars dims kd l
end
def bw (t:Tm):Int:=if am t>200 then 62 else if au t>20000 then 221 else if aqp false (-1) 24 t then 0 else 100
mutual
def OkT:Tm->Prop
 | .mk kd n j r h sys=>(aG kd/\aG n/\j.size<1073741824/\aq r/\r.length<1073741824/\h.length<1073741824/\sys.length<1073741824)/\aZ h/\ba sys
def aZ:LT->Prop
 |[]=>True
 |t::l=>OkT t/\aZ l
def ba:LB->Prop
 |[]=>True
 |b::l=>fc b/\ba l
def fc:Br Tm->Prop
 | .mk f h=>(aq f/\f.length<1073741824/\h.length<1073741824)/\aZ h
end
theorem okK_iff: ∀ {l:LT},aZ l↔ ∀t∈l,OkT t:=by
 intro l
 induction l<;>grind [aZ]
theorem oh {b:Br Tm}:fc b↔(aq b.face/\b.face.length<1073741824/\b.kids.length<1073741824)/\ ∀t∈b.kids,OkT t:=by
 cases b;rw [fc,okK_iff]
theorem NR: ∀ {l:LB},ba l↔ ∀b∈l,(aq b.face/\b.face.length<1073741824/\b.kids.length<1073741824)/\ ∀t∈b.kids,OkT t:=by
 intro l
 induction l<;>grind [ba,oh]
theorem OkT.node {kd n nm r ks sys} (h:OkT (.mk kd n nm r ks sys)):aG kd/\aG n/\nm.size<1073741824/\aq r/\r.length<1073741824/\ks.length<1073741824/\sys.length<1073741824:=by grind [OkT]
theorem OkT.kid {kd n nm r ks sys x} (h:OkT (.mk kd n nm r ks sys)) (j:x∈ks):OkT x:=by grind [OkT,okK_iff]
theorem OkT.br {kd n nm r ks sys b} (h:OkT (.mk kd n nm r ks sys)) (hb:b∈sys):(aq b.face/\b.face.length<1073741824/\b.kids.length<1073741824)/\ ∀t∈b.kids,OkT t:=by grind [OkT,NR]
theorem Zt {bd:Bool} {vars dims kd:Int}: ∀ {l:LT},ca bd vars dims kd l=l.all (aqp bd vars (dims+av kd)):=by
 intro l
 induction l<;>grind [ca]
theorem wH {bd:Bool} {vars dims kd:Int}: ∀ {l:LB},ck bd vars dims kd l=l.all fun b=>b.kids.all (aqp bd vars (dims+av kd)):=by
 intro l
 induction l with
 |nil=>rfl
 |cons b l h=>cases b;simp_all [ck,jT,Zt]
set_option maxRecDepth 100000
section
variable {H:Type} {enc:TypeId×Value->H} {w:World} {base:Nat} {spare:Nat->Bool} {held:Bool} {o:Obj} {N:aN} {g:Gh UU}
noncomputable abbrev jG (enc:TypeId×Value->H) (w:World) (base:Nat) (spare:Nat->Bool) (held:Bool):=DataW.trod enc Tryz.prog w base spare held
def oM (o:Obj) (w:World) (N:aN) (g:Gh UU) (e:ET) (x:EL e) (cs:List Value):Prop:= ∀ (k:Nat) (p:PU),(asF e x)[k]? =some p-> ∃v,cs[k]? =some v/\Rep (LL o) w N g v p
theorem Dr {l:List (DataW H)}:l.length<=Rows.uptoBulkAll l:=by
 induction l with
 |nil=>simp [Rows.uptoBulkAll]
 |cons x r h=>
  have:1<=Rows.uptoBulk x:=by
   cases x with
   |lit l=>cases l<;>simp [Rows.uptoBulk]
   |_=>simp [Rows.uptoBulk]
  simp only [Rows.uptoBulkAll,aq5];omega
theorem build {α β:Type} {R:Nat->β->α->Prop}: ∀ (elems:List β) (s:Nat),(∀i d,elems[i]? =some d-> ∃x,R (s+i) d x)-> ∃l:List α,l.length=elems.length/\ ∀i d,elems[i]? =some d-> ∃x,l[i]? =some x/\R (s+i) d x:=by
 intro elems
 induction elems with
 |nil=>intro s h;exact ⟨[],rfl,fun i d h=>by simp at h⟩
 |cons d r A=>
  intro s h
  obtain ⟨x,j⟩:=h 0 d rfl
  obtain ⟨l,hl,q⟩:=A (s+1) fun i z hd=>by
   obtain ⟨x,j⟩:=h (i+1) z (by simpa using hd)
   exact ⟨x,by rw [show s+1+i=s+(i+1) by omega];exact j⟩
  refine ⟨x::l,by simp [hl],fun i z hd=> ?_⟩
  cases i with
  |zero=>injection hd with hd;subst hd;exact ⟨x,rfl,j⟩
  |succ i=>
   obtain ⟨y,B,q⟩:=q i z (by simpa using hd)
   exact ⟨y,by simpa using B,by rw [show s+(i+1)=s+1+i by omega];exact q⟩
theorem FW (hN: ∀b o,¬N b o) {e:ET} {tS tE:TypeId} (ht:Tryz.prog.underlying tS=some (.slice tE)) (hc:Tryz.prog.cellsOf tE=pQ e) {Q:EL e->DataW H->Prop} {n:Nat} {cs:List Value} {d:DataW H} {pl:List MemPlace}
  (J: ∀ (cs:List Value) (d:DataW H) (pl:List MemPlace),jG enc w base spare held n tE cs=some (d,pl)-> ∃x:EL e,oM o w N g e x cs/\Q x d) (h:jG enc w base spare held (n+1) tS cs=some (d,pl)):
  ∃ (v:Value) (l:List (EL e)) (ds:List (DataW H)),cs=[v]/\Rep (LL o) w N g v (.sl (U:=UU) e l .none)/\l.length=ds.length/\(∀ (i:Nat) (x:EL e) (y:DataW H),l[i]? =some x->ds[i]? =some y->Q x y)/\Rows.uptoBulkAll ds+1<=Rows.uptoBulk d:=by
 rcases DataW.trod_slice ht h with ⟨rfl,z⟩|⟨a,len,cap,elems,rest,m,hm,rfl,z,hb,hl,ax,hlen,L,_,_⟩
 ·injection z with z _
  subst z
  exact ⟨_,[],[],rfl,Rep.sl (X:=LL o) (N:=N) (g:=g) none 0 0 e (show List (EL e) from []) .none (fun _ _=>undef) rfl (arq _) trivial (fun j x z=>by cases z) (fun j x z=>by cases z),rfl,fun i x y h=>by simp at h,by simp [Rows.uptoBulkAll,Rows.uptoBulk]⟩
 ·obtain rfl:n=m:=by omega
  injection z with z _
  subst z
  obtain ⟨l,F,M⟩:=build (R:=fun i (y:DataW H×List MemPlace) (x:EL e)=> ∃q,w.cells? base (a.add (i*Tryz.prog.cellsOf tE)) (Tryz.prog.cellsOf tE)=some q/\oM o w N g e x q/\Q x y.1) elems 0 fun i y I=>by
   have hi:i<len:=by rw [<-hlen];exact (asn.1 I).1
   have:=L i hi
   rw [I] at this
   obtain ⟨q,h1,h2⟩:=Option.bind_eq_some_iff.1 this
   obtain ⟨x,O,T⟩:=J q y.1 y.2 h2
   exact ⟨x,q,by simpa using h1,O,T⟩
  have E: ∀ (j:Nat) (x:EL e),l[j]? =some x-> ∃ (y:DataW H×List MemPlace) (q:List Value),elems[j]? =some y/\w.cells? base (a.add (j*Tryz.prog.cellsOf tE)) (Tryz.prog.cellsOf tE)=some q/\oM o w N g e x q/\Q x y.1:=fun j x z=>by
   have hj:j<elems.length:=by rw [<-F];exact (asn.1 z).1
   obtain ⟨x',B,q,h1,h2,W⟩:=M j _ (arN hj)
   rw [z] at B
   injection B with B
   subst B
   exact ⟨_,q,arN hj,by simpa using h1,h2,W⟩
  have A: ∀ (j:Nat) (x:EL e),l[j]? =some x-> ∀ (k:Nat) (p:PU),(asF e x)[k]? =some p-> ∃v,w.cell? (a.add (j*(LL o).esize e+k))=some v/\Rep (LL o) w N g v p:=fun j x z k p hp=>by
   obtain ⟨y,q,_,h1,h2,_⟩:=E j x z
   obtain ⟨v,hv,Y⟩:=h2 k p hp
   obtain ⟨_,ad,ao⟩:=World.cells?_some h1
   have hk:k<Tryz.prog.cellsOf tE:=by rw [<-ad];exact (asn.1 hv).1
   have:=ao k hk
   rw [hv,Go.Deep.add_add,hc] at this
   exact ⟨v,this,Y⟩
  refine ⟨_,l,elems.map (·.1),rfl,Rep.sl (X:=LL o) (some a) len cap e l .none (fun j k=>(w.cell? (a.add (j*(LL o).esize e+k))).getD undef) (by rw [<-hlen];exact F) hl trivial (fun j x z k p hp=> ?_) (fun j x z k p hp=> ?_),by simpa using F,fun i x y z I=> ?_,by simp [Rows.uptoBulk]⟩
  ·obtain ⟨v,hv,_⟩:=A j x z k p hp
   exact ⟨a,rfl,by simp [hv],hN _ _⟩
  ·obtain ⟨v,hv,Y⟩:=A j x z k p hp
   simp only [hv];exact Y
  ·obtain ⟨y',q,h1,_,_,W⟩:=E i x z
   have:y=y'.1:=by
    rw [List.getElem?_map,h1] at I
    injection I with I;exact I.symm
   subst this
   exact W
theorem NT {n:Nat} {cs:List Value} {d:DataW H} {pl:List MemPlace} (h:jG enc w base spare held n 3 cs=some (d,pl)): ∃z,cs=[.int .i64 z]/\aG z:=by
 obtain ⟨z,rfl,_,j⟩:=DataW.trod_int Tryz.underlying3 h
 refine ⟨z,rfl, ?_⟩
 simp [Lit.wf,IntKind.has] at j
 have h1:IntKind.i64.min= -9223372036854775808:=rfl
 have h2:IntKind.i64.max=9223372036854775807:=rfl
 unfold aG
 omega
theorem NU {n:Nat} {cs:List Value} {d:DataW H} {pl:List MemPlace} (h:jG enc w base spare held n 78 cs=some (d,pl)): ∃z,cs=[.int .u32 z]/\U32 z:=by
 obtain ⟨z,rfl,_,j⟩:=DataW.trod_int Tryz.underlying78 h
 refine ⟨z,rfl, ?_⟩
 simp [Lit.wf,IntKind.has] at j
 have h1:IntKind.u32.min=0:=rfl
 have h2:IntKind.u32.max=4294967295:=rfl
 unfold U32
 omega
def QC (c:Cl) (d:DataW H):Prop:=aX c
def QT (t:Tm) (d:DataW H):Prop:=au t<=Rows.uptoBulk d/\(Rows.uptoBulk d<1073741824->OkT t)
def QB (b:Br Tm) (d:DataW H):Prop:=fG b<=Rows.uptoBulk d/\(Rows.uptoBulk d<1073741824->(aq b.face/\b.face.length<1073741824/\b.kids.length<1073741824)/\ ∀t∈b.kids,OkT t)
theorem ahv {n:Nat} {cs:List Value} {d:DataW H} {pl:List MemPlace} (h:jG enc w base spare held n 80 cs=some (d,pl)): ∃x:EL ET.C,oM o w N g ET.C x cs/\QC (show Cl from x) d:=by
 obtain ⟨xs,m,rfl,_,hl,hlen,hf⟩:=DataW.trod_struct Tryz.underlying80 h
 have j:cs.length=2:=hl.trans (by kernel_rfl)
 match cs,j,xs,hlen with
 |[a,b],_,[E,y1],_=>
 have z:=hf 0 _ rfl
 have h1:=hf 1 _ rfl
 have q:Tryz.prog.cellsOf 78=1:=by kernel_rfl
 simp [q] at z h1
 obtain ⟨z0,A,k0⟩:=NU z
 obtain ⟨z1,B,k1⟩:=NU h1
 obtain rfl:a= .int .u32 z0:=by simpa using A
 obtain rfl:b= .int .u32 z1:=by simpa using B
 refine ⟨(⟨z0,z1⟩:Cl),fun k p hp=> ?_,⟨k0,k1⟩⟩
 match k,hp with
 |0,hp=>cases hp;exact ⟨_,rfl,.int _ _⟩
 |1,hp=>cases hp;exact ⟨_,rfl,.int _ _⟩
 |k+2,hp=>simp [asF] at hp
theorem akx {l:List Tm} {ds:List (DataW H)} (hl:l.length=ds.length) (h: ∀ (i:Nat) (x:Tm) (y:DataW H),l[i]? =some x->ds[i]? =some y->QT x y):ay l<=Rows.uptoBulkAll ds/\(Rows.uptoBulkAll ds<1073741824-> ∀t∈l,OkT t):=by
 induction l generalizing ds with
 |nil=>rw [ay];exact ⟨Nat.zero_le _,fun _ t j=>by cases j⟩
 |cons t l q=>
  cases ds with
  |nil=>cases hl
  |cons d ds=>
   obtain ⟨h1,h2⟩:=h 0 t d rfl rfl
   obtain ⟨i1,i2⟩:=q (ds:=ds) (by simpa using hl) fun i x y z A=>h (i+1) x y (by simpa using z) (by simpa using A)
   rw [ay,Rows.uptoBulkAll]
   refine ⟨by omega,fun hb u hu=> ?_⟩
   rcases arH.1 hu with rfl|hu
   ·exact h2 (by omega)
   ·exact i2 (by omega) u hu
theorem aky {l:List (Br Tm)} {ds:List (DataW H)} (hl:l.length=ds.length) (h: ∀ (i:Nat) (x:Br Tm) (y:DataW H),l[i]? =some x->ds[i]? =some y->QB x y):aI l<=Rows.uptoBulkAll ds/\(Rows.uptoBulkAll ds<1073741824->ba l):=by
 induction l generalizing ds with
 |nil=>rw [aI,ba];exact ⟨Nat.zero_le _,fun _=>trivial⟩
 |cons t l j=>
  cases ds with
  |nil=>cases hl
  |cons d ds=>
   obtain ⟨h1,h2⟩:=h 0 t d rfl rfl
   obtain ⟨i1,i2⟩:=j (ds:=ds) (by simpa using hl) fun i x y q z=>h (i+1) x y (by simpa using q) (by simpa using z)
   rw [aI,Rows.uptoBulkAll,ba,oh]
   exact ⟨by omega,fun hb=>⟨h2 (by omega),i2 (by omega)⟩⟩
theorem NS (A: ∀b o,¬N b o) {n:Nat} {cs:List Value} {d:DataW H} {pl:List MemPlace} (h:jG enc w base spare held n 23 cs=some (d,pl)):
  ∃ (v:Value) (l:List Cl),cs=[v]/\Rep (LL o) w N g v (bZ l .none)/\aq l/\l.length+1<=Rows.uptoBulk d:=by
 cases n with
 |zero=>cases h
 |succ n=>
  obtain ⟨v,l,j,rfl,B,hl,E,hb⟩:=FW (e:=ET.C) (Q:=fun x d=>QC (show Cl from x) d) A Tryz.underlying23 (by kernel_rfl) (fun cs d pl h=>ahv h) h
  refine ⟨v,l,rfl,B,fun c hc=> ?_, ?_⟩
  ·obtain ⟨i,z⟩:=List.getElem?_of_mem hc
   have q:i<j.length:=by rw [<-hl];exact (asn.1 z).1
   exact E i c _ z (arN q)
  ·have:=Dr (l:=j)
   have F: @List.length Cl l=j.length:=hl
   omega
theorem ahu (F: ∀b o,¬N b o): ∀ (n:Nat),
  (∀ (cs:List Value) (d:DataW H) (pl:List MemPlace),jG enc w base spare held n 27 cs=some (d,pl)-> ∃x:EL ET.T,oM o w N g ET.T x cs/\QT (show Tm from x) d)/\
  (∀ (cs:List Value) (d:DataW H) (pl:List MemPlace),jG enc w base spare held n 62 cs=some (d,pl)-> ∃x:EL ET.B,oM o w N g ET.B x cs/\QB (show Br Tm from x) d)/\
  (∀ (cs:List Value) (d:DataW H) (pl:List MemPlace),jG enc w base spare held n 24 cs=some (d,pl)-> ∃ (v:Value) (l:List Tm),cs=[v]/\Rep (LL o) w N g v (dO l .none)/\ay l+1<=Rows.uptoBulk d/\l.length+1<=Rows.uptoBulk d/\(Rows.uptoBulk d<1073741824-> ∀t∈l,OkT t))/\
  (∀ (cs:List Value) (d:DataW H) (pl:List MemPlace),jG enc w base spare held n 25 cs=some (d,pl)-> ∃ (v:Value) (l:List (Br Tm)),cs=[v]/\Rep (LL o) w N g v (dN l .none)/\aI l+1<=Rows.uptoBulk d/\l.length+1<=Rows.uptoBulk d/\(Rows.uptoBulk d<1073741824->ba l)):=by
 intro n
 induction n with
 |zero=>exact ⟨fun cs d pl h=>(by cases h),fun cs d pl h=>(by cases h),fun cs d pl h=>(by cases h),fun cs d pl h=>(by cases h)⟩
 |succ n ih=>
 obtain ⟨iT,iB,iK,iS⟩:=ih
 have c3:Tryz.prog.cellsOf 3=1:=by kernel_rfl
 have c9:Tryz.prog.cellsOf 9=1:=by kernel_rfl
 have q:Tryz.prog.cellsOf 23=1:=by kernel_rfl
 have z:Tryz.prog.cellsOf 24=1:=by kernel_rfl
 have L:Tryz.prog.cellsOf 25=1:=by kernel_rfl
 refine ⟨fun cs d pl h=> ?_,fun cs d pl h=> ?_,fun cs d pl h=> ?_,fun cs d pl h=> ?_⟩
 ·obtain ⟨xs,m,hm,j,hl,hlen,hf⟩:=DataW.trod_struct Tryz.underlying27 h
  obtain rfl:n=m:=by omega
  injection j with j _
  subst j
  have M:cs.length=6:=hl.trans (by kernel_rfl)
  match cs,M,xs,hlen with
  |[a0,a1,a2,a3,a4,a5],_,[y0,y1,y2,y3,y4,y5],_=>
  have A:=hf 0 _ rfl
  have h1:=hf 1 _ rfl
  have h2:=hf 2 _ rfl
  have h3:=hf 3 _ rfl
  have h4:=hf 4 _ rfl
  have h5:=hf 5 _ rfl
  simp [c3,c9,q,z,L] at A h1 h2 h3 h4 h5
  obtain ⟨z0,e0,k0⟩:=NT A
  obtain ⟨z1,e1,k1⟩:=NT h1
  obtain ⟨s,e2,k2,_⟩:=DataW.trod_string Tryz.underlying9 h2
  obtain ⟨v3,I,O,W,Y,m3⟩:=NS (o:=o) (g:=g) F h3
  obtain ⟨v4,J,e4,r4,k4,m4,q4⟩:=iK _ _ _ h4
  obtain ⟨v5,l5,e5,r5,k5,m5,q5⟩:=iS _ _ _ h5
  obtain rfl:a0= .int .i64 z0:=by simpa using e0
  obtain rfl:a1= .int .i64 z1:=by simpa using e1
  obtain rfl:a2= .string s:=by simpa using e2
  obtain rfl:a3=v3:=by simpa using O
  obtain rfl:a4=v4:=by simpa using e4
  obtain rfl:a5=v5:=by simpa using e5
  have hs:s.size<Rows.uptoBulk y2.1:=by
   rw [k2]
   simp [Rows.uptoBulk]
  refine ⟨Tm.mk z0 z1 s I J l5,fun k p hp=> ?_, ?_,fun hb=> ?_⟩
  ·match k,hp with
   |0,hp=>cases hp;exact ⟨_,rfl,.int _ _⟩
   |1,hp=>cases hp;exact ⟨_,rfl,.int _ _⟩
   |2,hp=>cases hp;exact ⟨_,rfl,.str _⟩
   |3,hp=>cases hp;exact ⟨_,rfl,W⟩
   |4,hp=>cases hp;exact ⟨_,rfl,r4⟩
   |5,hp=>cases hp;exact ⟨_,rfl,r5⟩
   |k+6,hp=>simp [asF] at hp
  ·show au _<=_
   rw [au]
   simp only [List.map_cons,List.map_nil,Rows.uptoBulk,Rows.uptoBulkAll]
   omega
  ·simp only [List.map_cons,List.map_nil,Rows.uptoBulk,Rows.uptoBulkAll] at hb
   show OkT _
   rw [OkT,okK_iff]
   exact ⟨⟨k0,k1,by omega,Y,by omega,by omega,by omega⟩,q4 (by omega),q5 (by omega)⟩
 ·obtain ⟨xs,m,hm,j,hl,hlen,hf⟩:=DataW.trod_struct Tryz.underlying62 h
  obtain rfl:n=m:=by omega
  injection j with j _
  subst j
  have ad:cs.length=2:=hl.trans (by kernel_rfl)
  match cs,ad,xs,hlen with
  |[a0,a1],_,[y0,y1],_=>
  have A:=hf 0 _ rfl
  have h1:=hf 1 _ rfl
  simp [q,z] at A h1
  obtain ⟨v3,I,O,W,Y,m3⟩:=NS (o:=o) (g:=g) F A
  obtain ⟨v4,J,e4,r4,k4,m4,q4⟩:=iK _ _ _ h1
  obtain rfl:a0=v3:=by simpa using O
  obtain rfl:a1=v4:=by simpa using e4
  refine ⟨Br.mk I J,fun k p hp=> ?_, ?_,fun hb=> ?_⟩
  ·match k,hp with
   |0,hp=>cases hp;exact ⟨_,rfl,W⟩
   |1,hp=>cases hp;exact ⟨_,rfl,r4⟩
   |k+2,hp=>simp [asF] at hp
  ·show fG _<=_
   rw [fG]
   simp only [List.map_cons,List.map_nil,Rows.uptoBulk,Rows.uptoBulkAll]
   omega
  ·simp only [List.map_cons,List.map_nil,Rows.uptoBulk,Rows.uptoBulkAll] at hb
   exact ⟨⟨Y,by show I.length<_;omega,by show J.length<_;omega⟩,q4 (by omega)⟩
 ·obtain ⟨v,l,E,rfl,hr,hl,hq,hb⟩:=FW (e:=ET.T) (Q:=fun x d=>QT (show Tm from x) d) F Tryz.underlying24 (by kernel_rfl) iT h
  obtain ⟨s1,s2⟩:=akx (l:=l) hl hq
  have:=Dr (l:=E)
  have ao: @List.length Tm l=E.length:=hl
  exact ⟨v,l,rfl,hr,by omega,by omega,fun hd=>s2 (by omega)⟩
 ·obtain ⟨v,l,E,rfl,hr,hl,hq,hb⟩:=FW (e:=ET.B) (Q:=fun x d=>QB (show Br Tm from x) d) F Tryz.underlying25 (by kernel_rfl) iB h
  obtain ⟨s1,s2⟩:=aky (l:=l) hl hq
  have:=Dr (l:=E)
  have ao: @List.length (Br Tm) l=E.length:=hl
  exact ⟨v,l,rfl,hr,by omega,by omega,fun hd=>s2 (by omega)⟩
end
end Go.Proofs.YtgmmefmmnakbpaaGreatDoor
namespace Go.Proofs
open Go.Shelf
def Tryz.sortCl_ren:Go.Shelf.Ren:=⟨fun|6=>202|15=>227|14=>226|28=>251|29=>252|20=>243|21=>244|22=>245|23=>246|24=>247|25=>248|26=>249|27=>250|46=>261|47=>262|48=>263|49=>264|50=>265|57=>267|n=>n,fun|22=>23|24=>80|25=>186|3=>3|39=>161|0=>0|53=>78|55=>33|4=>4|46=>213|45=>212|50=>217|5=>5|9=>9|66=>221|70=>225|76=>228|77=>66|n=>n,fun|n=>n⟩
theorem Tryz.sortCl:Go.Proofs.SlLaysF0.n6 Tryz.prog Tryz.sortCl_ren:={
 mixed:=by kernel_rfl
 f6:=⟨Tryz.f202.name,by decide,Tryz.func202.trans (congrArg some (by kernel_rfl))⟩
 f14:=⟨Tryz.f226.name,by decide,Tryz.func226.trans (congrArg some (by kernel_rfl))⟩
 f15:=Tryz.func227.trans (congrArg some (by kernel_rfl))
 f20:=⟨Tryz.f243.name,by decide,Tryz.func243.trans (congrArg some (by kernel_rfl))⟩
 f21:=⟨Tryz.f244.name,by decide,Tryz.func244.trans (congrArg some (by kernel_rfl))⟩
 f22:=⟨Tryz.f245.name,by decide,Tryz.func245.trans (congrArg some (by kernel_rfl))⟩
 f23:=⟨Tryz.f246.name,by decide,Tryz.func246.trans (congrArg some (by kernel_rfl))⟩
 f24:=⟨Tryz.f247.name,by decide,Tryz.func247.trans (congrArg some (by kernel_rfl))⟩
 f25:=⟨Tryz.f248.name,by decide,Tryz.func248.trans (congrArg some (by kernel_rfl))⟩
 f26:=⟨Tryz.f249.name,by decide,Tryz.func249.trans (congrArg some (by kernel_rfl))⟩
 f27:=⟨Tryz.f250.name,by decide,Tryz.func250.trans (congrArg some (by kernel_rfl))⟩
 f28:=Tryz.func251.trans (congrArg some (by kernel_rfl))
 f29:=Tryz.func252.trans (congrArg some (by kernel_rfl))
 f46:=⟨Tryz.f261.name,by decide,Tryz.func261.trans (congrArg some (by kernel_rfl))⟩
 f47:=Tryz.func262.trans (congrArg some (by kernel_rfl))
 f48:=Tryz.func263.trans (congrArg some (by kernel_rfl))
 f49:=⟨Tryz.f264.name,by decide,Tryz.func264.trans (congrArg some (by kernel_rfl))⟩
 f50:=⟨Tryz.f265.name,by decide,Tryz.func265.trans (congrArg some (by kernel_rfl))⟩
 f57:=⟨Tryz.f267.name,by decide,Tryz.func267.trans (congrArg some (by kernel_rfl))⟩
 t0:=Tryz.underlying0
 a0:=Tryz.isAgg0
 z0:=Tryz.sizeOf0
 v0:=Tryz.zeroValue0
 t3:=Tryz.underlying3
 a3:=Tryz.isAgg3
 z3:=Tryz.sizeOf3
 v3:=Tryz.zeroValue3
 t4:=Tryz.underlying4
 a4:=Tryz.isAgg4
 z4:=Tryz.sizeOf4
 v4:=Tryz.zeroValue4
 t5:=Tryz.underlying5
 a5:=Tryz.isAgg5
 z5:=Tryz.sizeOf5
 v5:=Tryz.zeroValue5
 t9:=Tryz.underlying9
 a9:=Tryz.isAgg9
 z9:=Tryz.sizeOf9
 v9:=Tryz.zeroValue9
 t22:=Tryz.underlying23
 a22:=Tryz.isAgg23
 z22:=Tryz.sizeOf23
 v22:=Tryz.zeroValue23
 t25:=Tryz.underlying186
 a25:=Tryz.isAgg186
 z25:=Tryz.sizeOf186
 v25:=Tryz.zeroValue186
 t39:=Tryz.underlying161
 a39:=Tryz.isAgg161
 z39:=Tryz.sizeOf161
 v39:=Tryz.zeroValue161
 t45:=Tryz.underlying212
 a45:=Tryz.isAgg212
 z45:=Tryz.sizeOf212
 v45:=Tryz.zeroValue212
 t46:=Tryz.underlying213
 a46:=Tryz.isAgg213
 z46:=Tryz.sizeOf213
 v46:=Tryz.zeroValue213
 t50:=Tryz.underlying217
 a50:=Tryz.isAgg217
 z50:=Tryz.sizeOf217
 v50:=Tryz.zeroValue217
 t53:=Tryz.underlying78
 a53:=Tryz.isAgg78
 z53:=Tryz.sizeOf78
 v53:=Tryz.zeroValue78
 t55:=Tryz.underlying33
 a55:=Tryz.isAgg33
 z55:=Tryz.sizeOf33
 v55:=Tryz.zeroValue33
 t66:=Tryz.underlying221
 a66:=Tryz.isAgg221
 z66:=Tryz.sizeOf221
 v66:=Tryz.zeroValue221
 t70:=Tryz.underlying225
 a70:=Tryz.isAgg225
 z70:=Tryz.sizeOf225
 v70:=Tryz.zeroValue225
 t76:=Tryz.underlying228
 a76:=Tryz.isAgg228
 z76:=Tryz.sizeOf228
 v76:=Tryz.zeroValue228
 t77:=Tryz.underlying66
 a77:=Tryz.isAgg66
 z77:=Tryz.sizeOf66
 v77:=Tryz.zeroValue66}
end Go.Proofs
namespace Go.Proofs.YtgmmefmmnakbpaaGreatDoor
open Go PI
set_option maxRecDepth 100000
noncomputable section
def acN:Nat:=266
def acO:Nat:=49
noncomputable def G2 {S:Type}:List PU->List (Box UU)->(Out UU->Option S)->Option S
 |[.sl .C h .none],[],κ=>rj h fun r=>κ (.ret (bZ r .none) [])
 |_,_,_=> .none
noncomputable def GZ {S:Type}:List PU->List (Box UU)->(Out UU->Option S)->Option S
 |[.int .u32 h],[],κ=>vz h fun r=>κ (.ret (la r .none) [])
 |_,_,_=> .none
end
end Go.Proofs.YtgmmefmmnakbpaaGreatDoor
namespace Go.Proofs
open Go.Shelf Go.RowKit
set_option maxHeartbeats 1000000 in
theorem Tryz.tz32_core (x k idx:Nat) (w:World) (j:((x:Int)==0)=false)
  (key:bits BinOp.and IntKind.u32 (x:Int) (-(x:Int)%4294967296)*125613361%4294967296/134217728=(idx:Int))
  (q:idx<32) (hk:k<32) (h:w.cell? ⟨0,idx,none⟩=some (.int .u8 k)):
  Calls Tryz.prog 270 #[.int .u32 x] w fun e w'=>e= .returned (.int .i64 k)/\w'=w:=by
 go_enter Tryz.func270,Tryz.ntmps270
 go_wp2_with (simp only [key])
 go_ret
 exact ⟨rfl,rfl⟩
theorem Tryz.tz32 (x:Nat) (z:x<4294967296) (A:x≠0) (w:World) (hT:TabAt 0 Lib.deBruijn32tab w):
  Calls Tryz.prog 270 #[.int .u32 x] w fun e w'=>e= .returned (.int .i64 (Lib.ctz 32 x))/\w'=w:=by
 obtain ⟨j,hk⟩:=Lib.lowest_bit 32 x A z
 obtain ⟨B,q⟩:=Lib.deBruijn32_at _ hk
 have h:=hT _ B
 rw [q] at h
 exact Tryz.tz32_core x _ _ w (by simp;omega) (tz32_key x _ z A j) B hk h
end Go.Proofs
namespace Go.Proofs.YtgmmefmmnakbpaaGreatDoor
open Go Go.Shelf Go.RowKit
attribute [local go_sem] Oper.semAt_some
def eL (s:Nat):List Nat:=(arU 24).filter s.testBit
theorem ak1 (s:Nat) (F:s≠0) (h:s<16777216):eL s=Lib.ctz 32 s::eL (s&&&(s-1))/\s&&&(s-1)<s:=by
 obtain ⟨m,B,hk⟩:=Lib.ctzFrom_spec 32 s (by omega) (by omega)
 have e:Lib.ctz 32 s=Lib.ctzFrom 32 s:=by simp [Lib.ctz,F]
 rw [e]
 generalize Lib.ctzFrom 32 s=t at B hk
 have hs:s=2^(t+1)*m+2^t:=by
  rw [B,Nat.mul_add,Nat.mul_one,Nat.pow_succ,<-Nat.mul_assoc]
 have hp:0<2^t:=Nat.two_pow_pos t
 have I:2^(t+1)=2^t*2:=Nat.pow_succ 2 t
 have z:s-1=2^(t+1)*m+(2^t-1):=by omega
 have q: ∀j,s.testBit j=if j<t+1 then decide (t=j) else m.testBit (j-(t+1)):=fun j=>by
  rw [hs,Nat.testBit_two_pow_mul_add _ (by omega),Nat.testBit_two_pow]
 have J: ∀j,(s-1).testBit j=if j<t+1 then decide (j<t) else m.testBit (j-(t+1)):=fun j=>by
  rw [z,Nat.testBit_two_pow_mul_add _ (by omega),Nat.testBit_two_pow_sub_one]
 have x: ∀j,(s&&&(s-1)).testBit j=if j<t+1 then false else m.testBit (j-(t+1)):=fun j=>by
  rw [Nat.testBit_and,q,J]
  by_cases hj:j<t+1
  ·rw [if_pos hj,if_pos hj,if_pos hj]
   by_cases A:t=j
   ·rw [decide_eq_true A,decide_eq_false (by omega)];rfl
   ·rw [decide_eq_false A];rfl
  ·rw [if_neg hj,if_neg hj,if_neg hj,Bool.and_self]
 have O:s&&&(s-1)=2^(t+1)*m:=by
  apply Nat.eq_of_testBit_eq
  intro j
  rw [x]
  have:2^(t+1)*m=2^(t+1)*m+0:=rfl
  rw [this,Nat.testBit_two_pow_mul_add _ (by omega),Nat.zero_testBit]
 have A:t<24:=by
  apply Nat.lt_of_not_le
  intro hle
  have:2^24<=2^t:=Nat.pow_le_pow_right (by decide) hle
  have L:(2:Nat)^24=16777216:=by decide
  omega
 refine ⟨?_,by omega⟩
 unfold eL
 have M:arU 24=arU t++(t::(arU (23-t)).map (fun j=>t+1+j)):=by
  apply List.ext_getElem
  ·simp;omega
  ·intro i h1 h2
   simp only [List.getElem_range]
   by_cases E:i<t
   ·rw [List.getElem_append_left (by simpa using E)];simp
   ·rw [List.getElem_append_right (by simpa using E)]
    simp only [List.length_range]
    by_cases he:i=t
    ·subst he;simp
    ·obtain ⟨d,rfl⟩: ∃d,i=t+1+d:=⟨i-t-1,by omega⟩
     simp only [show t+1+d-t=d+1 by omega,List.getElem_cons_succ,List.getElem_map,List.getElem_range]
 rw [M,List.filter_append,List.filter_append]
 have f1:(arU t).filter s.testBit=[]:=List.filter_eq_nil_iff.2 fun j hj=>by
  have:=List.mem_range.1 hj
  rw [q,if_pos (by omega),decide_eq_false (by omega)];decide
 have f2:(arU t).filter (s&&&(s-1)).testBit=[]:=List.filter_eq_nil_iff.2 fun j hj=>by
  have:=List.mem_range.1 hj
  rw [x,if_pos (by omega)];decide
 rw [f1,f2,as2,as2,List.filter_cons_of_pos (by rw [q,if_pos (by omega)];simp),List.filter_cons_of_neg (by rw [x,if_pos (by omega)];decide)]
 congr 1
 apply List.filter_congr
 intro j hj
 obtain ⟨d,_,rfl⟩:=arR.1 hj
 rw [q,x,if_neg (by omega),if_neg (by omega)]
theorem akZ:eL 0=[]:=List.filter_eq_nil_iff.2 fun j _=>by rw [Nat.zero_testBit];decide
theorem ak0 (s:Nat):(eL s).length<=24:=by
 have:=List.length_filter_le s.testBit (arU 24)
 simpa [eL] using this
theorem adi (s:Int) (w:World):Calls Tryz.prog 268 #[.int .u32 s] w fun e w'=>e= .returned (.func (.func 269) #[] #[.pointer (some ⟨w.heap.size,0,none⟩)])/\w'=w.alloc (.cells #[.int .u32 s] 78):=by
 go_enter Tryz.func268,Tryz.ntmps268
 go_wp2
 go_ret
 exact ⟨rfl,rfl⟩
def Fo:Code:=(Code.region 3 #[{dst:=some 4,op:=Op.assign (Operand.tmp 7),type:=3,pos:= "mask.go:57",after:= #[],guard:=none}] false)
def Fp:Code:=(Code.block 1 (Code.region 4 #[{dst:=some 8,op:=Op.load 147 (Operand.tmp 3),type:=147,pos:= "mask.go:58",after:= #[],guard:=none},{dst:=some 9,op:=Op.move (Operand.tmp 4),type:=3,pos:= "mask.go:58",after:= #[],guard:=none},{dst:=some 10,op:=Op.buildSlice 147 1 #[(0,Operand.tmp 9)],type:=147,pos:= "mask.go:58",after:= #[{on:=1,ground:=Ground.data}],guard:=none},{dst:=some 11,op:=Op.call {callee:=Callee.builtin Builtin.append,args:= #[Operand.tmp 8,Operand.tmp 10],argTypes:= #[147,147]},type:=147,pos:= "mask.go:58",after:= #[{on:=0,ground:=Ground.data},{on:=2,ground:=Ground.data}],guard:=none},{dst:=none,op:=Op.store 147 (Operand.tmp 3) (Operand.tmp 11),type:=0,pos:= "mask.go:58",after:= #[{on:=3,ground:=Ground.data},{on:=3,ground:=Ground.chain},{on:=0,ground:=Ground.phase},{on:=1,ground:=Ground.phase},{on:=2,ground:=Ground.phase},{on:=3,ground:=Ground.phase}],guard:=none}] false))
def atZ (fn:FuncId) (s0:Int) (fv:Value) (Bo D:Nat) (st:LoopState) (h:Option Code):Loop:=
 {state:=st,pending:=h,fn,tmps:= #[.int .u32 s0,undef,.slice none 0 0,.pointer (some ⟨Bo,0,none⟩),undef,.int .u32 s0,fv,undef,undef,undef,undef,undef,undef],params:= #[7],assign:=Fo,body:=Fp,defers:=D}
def auq (x:Nat):Value:= .int .i64 (x:Int)
structure LsAt (w0:World) (fn:FuncId) (s0:Int) (fv:Value) (Bo l D:Nat) (ss:List Nat) (W:World):Prop where
 box: ∃v,W.heap[Bo]? =some (.cells #[v] 147 (0,0))/\W.ownsRow w0.heap.size 3 1 v ss.length (ss.map auq)
 L:W.heap[l]? =some (.loop (atZ fn s0 fv Bo D .ready none))
 K:W.heap[D]? =some (.deferred (some []))
 below:Below w0.heap.size w0 W
theorem rk (W:World) (l:Nat) (o:Obj):W.grownBy (W.putObj l o) (some l):=
 ⟨rfl,rfl,rfl,by simp,fun k _ hk=>World.putObj_heap_other (fun e=>hk (by rw [e]))⟩
theorem Hj (W:World) (b:Nat) (v:Value):W.grownBy (W.setCell ⟨b,0,none⟩ v) (some b):=
 ⟨rfl,rfl,rfl,(KeepsWalks.setCell W _ v).size,fun k _ hk=>Below.heap_setCell _ _ _ k (fun e=>hk (by rw [e]))⟩
theorem mr {W:World} {base:Nat} {e:TypeId} {size:Nat} {v:Value} {k:Nat} {xs:List Value} (h:W.ownsRow base e size v k xs) {j:Nat} {o:Obj} (hj:W.heap[j]? =some o) (q: ∀cur,o≠ .cells cur e (0,0)):
  v.ownBlock=none\/v.ownBlock≠some j:=by
 rcases h.2 with ⟨rfl,_⟩|⟨g,cap,cur,rfl,_,x,_⟩
 ·exact .inl rfl
 ·refine .inr fun e'=> ?_
  have:g=j:=by simpa [Value.ownBlock] using e'
  subst this;rw [x] at hj;cases hj;exact q cur rfl
theorem m6 {W:World} {B:Nat} {v:Value} {t:TypeId} (h:W.heap[B]? =some (.cells #[v] t (0,0))):W.cell? ⟨B,0,none⟩=some v/\W.frozen? ⟨B,0,none⟩=false:=by
 constructor<;>simp [World.cell?,World.frozen?,h]
theorem Dm {W:World} {B:Nat} {v:Value} {t:TypeId} (v':Value) (h:W.heap[B]? =some (.cells #[v] t (0,0))):(W.setCell ⟨B,0,none⟩ v').heap[B]? =some (.cells #[v'] t (0,0)):=by
 obtain ⟨j,hk⟩:=asV.1 h
 show (W.heap.modify B _)[B]? =_
 rw [Array.getElem?_eq_getElem (by rw [Array.size_modify];exact j),Array.getElem_modify_self,hk]
 rfl
theorem adk:(Tryz.prog.info? 3).map (fun i=>(i.zero,i.size,i.bytes))=some (some (.int .i64 0),1,8):=by kernel_rfl
set_option maxRecDepth 100000 in
set_option maxHeartbeats 2000000 in
theorem agB (F:Fence) (m:Nat) (w0:World) (fn:FuncId) (hfn:F.fn fn) (s0:Int) (fv:Value) (Bo Bi l D:Nat) (hBl:Bo≠l) (hDl:D≠l) (hDB:D≠Bo) (hBiBo:Bi≠Bo) (hBil:Bi≠l) (h0B:w0.heap.size<=Bo) (h0l:w0.heap.size<=l)
  (ss:List Nat) (x:Nat) (c:Value) (W:World) (h:LsAt w0 fn s0 fv Bo l D ss W) (hi0:W.heap[Bi]? =some (.cells #[c] 78 (0,0))) (hlen:ss.length<24):
  YieldAt F m Tryz.prog l #[auq x] W fun e W'=>e= .returned (.bool true)/\LsAt w0 fn s0 fv Bo l D (ss++[x]) W'/\W'.heap[Bi]? =some (.cells #[c] 78 (0,0)):=by
 obtain ⟨i0,hi,hz0,hz1,hz2⟩:=info_parts adk
 obtain ⟨v,hv,hrow⟩:=h.box
 refine ⟨fn,#[.int .u32 s0,undef,.slice none 0 0,.pointer (some ⟨Bo,0,none⟩),undef,.int .u32 s0,fv,.int .i64 (x:Int),undef,undef,undef,undef,undef],Fo,Fp,by simpa [atZ,auq] using run_yield (P:=Tryz.prog) (args:= #[auq x]) h.L rfl,roundIn_of_wpIn hfn ?_⟩
 have hl:l<W.heap.size:=(asV.1 h.L).1
 have hbr:=run_beginRound (P:=Tryz.prog) h.L rfl
 obtain ⟨W2,hW2⟩: ∃W2,W.putObj l (.loop {atZ fn s0 fv Bo D .ready none with state:= .busy})=W2:=⟨_,rfl⟩
 rw [hW2] at hbr
 have hg2:W.grownBy W2 (some l):=by rw [<-hW2];exact rk _ _ _
 have hv2:W2.heap[Bo]? =some (.cells #[v] 147 (0,0)):=by rw [<-hW2];exact (World.putObj_heap_other hBl).trans hv
 have hi2:W2.heap[Bi]? =some (.cells #[c] 78 (0,0)):=by rw [<-hW2];exact (World.putObj_heap_other hBil).trans hi0
 have hK2:W2.heap[D]? =some (.deferred (some [])):=by rw [<-hW2];exact (World.putObj_heap_other hDl).trans h.K
 have hL2:W2.heap[l]? =some (.loop {atZ fn s0 fv Bo D .ready none with state:= .busy}):=by rw [<-hW2];exact World.putObj_heap_same hl
 have hrow2:W2.ownsRow w0.heap.size 3 1 v ss.length (ss.map auq):=hrow.kept hg2 (mr hrow h.L (fun cur e=>by cases e))
 have hb2:Below w0.heap.size w0 W2:=h.below.grown hg2 h.below.size (fun k e=>by cases e;exact h0l)
 obtain ⟨hc2,hf2⟩:=m6 hv2
 have hBlt:Bo<W2.heap.size:=(asV.1 hv2).1
 have hBilt:Bi<W2.heap.size:=(asV.1 hi2).1
 have hl2:l<W2.heap.size:=(asV.1 hL2).1
 have hDlt:D<W2.heap.size:=(asV.1 hK2).1
 have ne_of: ∀ {j:Nat} {o:Obj},W2.heap[j]? =some o->(∀cur,o≠ .cells cur 3 (0,0))->some j≠v.ownBlock:=fun hj hno=>by
  rcases mr hrow2 hj hno with e|e
  ·rw [e];simp
  ·exact fun e'=>e e'.symm
 clear hW2
 have hml:24<=maxLen:=by unfold maxLen;omega
 unfold Fo
 gi_wp2_with (rw [Oper.semAt_eq _ _ _ (fun c h=>by cases h)];go_simp;try go_bits)
 unfold Fp
 gi_wp2_with (first
  |(gi_at_builtin;refine wpListIn_append_own _ rfl _ _ 147 rfl w0.heap.size 3 i0 (.int .i64 0) 1 8 Tryz.underlying147 hi hz0 hz1 hz2 rfl (by decide) _ _ _ rfl (hrow2.alloc _) ⟨W2.heap.size,0,none⟩ 1 1 [auq x] rfl rfl (cell_one_new _ _ _) (by simp [Value.oneCell',auq]) (by omega) (by omega) (by have:=hb2.size;simp;omega) ?_;intro v' w3 hown' hg3 hnil3
    have hv3:w3.heap[Bo]? =some (.cells #[v] 147 (0,0)):=(hg3.block Bo (by simp;omega) (ne_of hv2 (fun cur e=>by cases e))).trans ((Below.heap_alloc _ _ Bo hBlt).trans hv2)
    obtain ⟨hc3,hf3⟩:=m6 hv3
    obtain ⟨g',cap',cur',rfl,hbase',hgb',hr1,hr2,hr3,hr4⟩: ∃g' cap' cur',v'= .slice (some ⟨g',0,none⟩) (ss.length+1) cap'/\w0.heap.size<=g'/\w3.heap[g']? =some (.cells cur' 3 (0,0))/\ss.length+1<=cap'/\cap'<=maxLen/\cur'.size=cap'*1/\cur'.toList.take ((ss.length+1)*1)=ss.map auq++[auq x]:=by
     rcases hown'.2 with ⟨_,h0⟩|h'
     ·exact absurd h0 (by omega)
     ·exact h'
    go_frame)
  |(rw [Oper.semAt_eq _ _ _ (fun c h=>by cases h)];go_simp;try go_bits))
 have hg3':(W2.alloc (.cells #[auq x] 3)).grownBy w3 v.ownBlock:=hg3
 have hL3:w3.heap[l]? =some (.loop {atZ fn s0 fv Bo D .ready none with state:= .busy}):=(hg3'.block l (by simp;omega) (ne_of hL2 (fun cur e=>by cases e))).trans ((Below.heap_alloc _ _ l hl2).trans hL2)
 have hK3:w3.heap[D]? =some (.deferred (some [])):=(hg3'.block D (by simp;omega) (ne_of hK2 (fun cur e=>by cases e))).trans ((Below.heap_alloc _ _ D hDlt).trans hK2)
 have hi3:w3.heap[Bi]? =some (.cells #[c] 78 (0,0)):=(hg3'.block Bi (by simp;omega) (ne_of hi2 (fun cur e=>by cases e))).trans ((Below.heap_alloc _ _ Bi hBilt).trans hi2)
 obtain ⟨w4,hw4⟩: ∃w4,w3.setCell ⟨Bo,0,none⟩ (.slice (some ⟨g',0,none⟩) (ss.length+1) cap')=w4:=⟨_,rfl⟩
 rw [hw4]
 have hg4:w3.grownBy w4 (some Bo):=by rw [<-hw4];exact Hj _ _ _
 have hv4:w4.heap[Bo]? =some (.cells #[.slice (some ⟨g',0,none⟩) (ss.length+1) cap'] 147 (0,0)):=by rw [<-hw4];exact Dm _ hv3
 have hL4:w4.heap[l]? =some (.loop {atZ fn s0 fv Bo D .ready none with state:= .busy}):=(hg4.block l (asV.1 hL3).1 (fun e=>hBl (by cases e;rfl))).trans hL3
 have hK4:w4.heap[D]? =some (.deferred (some [])):=(hg4.block D (asV.1 hK3).1 (fun e=>hDB (by cases e;rfl))).trans hK3
 have hi4:w4.heap[Bi]? =some (.cells #[c] 78 (0,0)):=(hg4.block Bi (asV.1 hi3).1 (fun e=>hBiBo (by cases e;rfl))).trans hi3
 have hrow4:=hown'.kept hg4 (mr hown' hv3 (fun cur e=>by cases e))
 have hl4:l<w4.heap.size:=(asV.1 hL4).1
 have hb3:Below w0.heap.size w0 w3:=(hb2.alloc hb2.size _).grown hg3' (by have:=hb2.size;simp;omega) (fun k e=>(hrow2.lt k e).1)
 have hb4:Below w0.heap.size w0 w4:=hb3.grown hg4 hb3.size (fun k e=>by cases e;exact h0B)
 clear hw4
 refine ⟨_,_,run_endRound none hL4,rfl,⟨⟨_,(World.putObj_heap_other hBl).trans hv4, ?_⟩,World.putObj_heap_same hl4,(World.putObj_heap_other hDl).trans hK4,hb4.grown (rk _ _ _) hb4.size (fun k e=>by cases e;exact h0l)⟩,(World.putObj_heap_other hBil).trans hi4⟩
 have:=hrow4.kept (rk w4 l (.loop {{atZ fn s0 fv Bo D .ready none with state:= .busy} with state:=if (none:Option Code).isNone then .ready else .done,pending:=none})) (mr hrow4 hL4 (fun cur e=>by cases e))
 simpa using this
def Ff (Bi:Nat) (w:World):Nat:=match w.cell? ⟨Bi,0,none⟩ with
 |some v=>(intOf v).toNat
 |none=>0
theorem LI {Bi:Nat} {w:World} {n:Nat} {t:TypeId} (h:w.heap[Bi]? =some (.cells #[.int .u32 (n:Int)] t (0,0))):Ff Bi w=n:=by
 unfold Ff;rw [(m6 h).1];simp [intOf]
theorem Zq {w0 W:World} (hT:TabAt 0 Lib.deBruijn32tab w0) (hb:Below w0.heap.size w0 W):TabAt 0 Lib.deBruijn32tab W:=fun j hj=>by
 have h:=hT j hj
 have q:0<w0.heap.size:=World.block_lt_of_cell? w0 ⟨0,j,none⟩ h
 exact (hb.cell (p:=⟨0,j,none⟩) q).trans h
theorem ZD (s:Int):bits .and .u32 s 16777215=(((BitVec.ofInt 32 s).toNat&&&16777215:Nat):Int):=by
 have h:(BitVec.ofInt 32 s).toNat&&&16777215<2^32:=Nat.and_lt_two_pow _ (by omega)
 show IntKind.u32.wrap ((BitVec.ofInt 32 s&&&BitVec.ofInt 32 16777215).toNat:Int)=_
 rw [BitVec.toNat_and,wrap_u32',show (BitVec.ofInt 32 16777215).toNat=16777215 from by decide]
 omega
def iE (s:Int):Nat:=(BitVec.ofInt 32 s).toNat&&&16777215
theorem ZE (s:Nat) (j:s≠0) (h:s<4294967296):bits .and .u32 (s:Int) ((s:Int)-1)=((s&&&(s-1):Nat):Int):=by
 have:(s:Int)-1=((s-1:Nat):Int):=by omega
 rw [this];exact bits_and_u32_nat s (s-1) h (by omega)
set_option maxRecDepth 100000 in
set_option maxHeartbeats 2000000 in
theorem agA (F:Fence) (n:Nat) (h269:F.fn 269) (h270:F.fn 270) (hro:F.round=none) (hn:1<=n) (w0:World) (fn:FuncId) (hfn:F.fn fn) (s0:Int) (fv:Value) (Bo Bi l D:Nat) (hBl:Bo≠l) (hDl:D≠l) (hDB:D≠Bo) (hBiBo:Bi≠Bo) (hBil:Bi≠l) (hBiD:Bi≠D)
  (h0B:w0.heap.size<=Bo) (h0l:w0.heap.size<=l) (h0i:w0.heap.size<=Bi) (hT:TabAt 0 Lib.deBruijn32tab w0) (s:Int) (W:World) (h:LsAt w0 fn s0 fv Bo l D [] W) (hi0:W.heap[Bi]? =some (.cells #[.int .u32 s] 78 (0,0)))
  (htz: ∀ (x:Nat),x<4294967296->x≠0-> ∀W',TabAt 0 Lib.deBruijn32tab W'->CallsIn F (n-1) Tryz.prog 270 #[.int .u32 x] W' fun e w'=>e= .returned (.int .i64 (Lib.ctz 32 x))/\w'=W'):
  CallsIn F n Tryz.prog 269 #[.func (.yield l) #[] #[],.pointer (some ⟨Bi,0,none⟩)] W fun e W'=>(∃v,e= .returned v)/\LsAt w0 fn s0 fv Bo l D (eL (iE s)) W':=by
 obtain ⟨hc0,hf0⟩:=m6 hi0
 have ha:bits .and .u32 s 16777215=((iE s:Nat):Int):=ZD s
 have hsl:iE s<16777216:=Nat.lt_of_le_of_lt Nat.and_le_right (by decide)
 generalize iE s=q at ha hsl ⊢
 refine callsIn_of_wp Tryz.func269 rfl h269 ?_ hro
 simp only [Tryz.ntmps269,List.size_toArray,aq5,List.length_nil,Nat.reduceAdd,Nat.reduceSub,Array.replicate_succ,Array.replicate_zero,List.push_toArray,List.append_toArray,as2,List.cons_append]
 gi_wp2
 have hi1:=Dm (.int .u32 (q:Int)) hi0
 have hA1:LsAt w0 fn s0 fv Bo l D [] (W.setCell ⟨Bi,0,none⟩ (.int .u32 (q:Int))):=by
  obtain ⟨v,hv,hrow⟩:=h.box
  exact ⟨⟨v,(Below.heap_setCell _ _ _ Bo (fun e=>hBiBo e.symm)).trans hv,hrow.kept (Hj _ _ _) (mr hrow hi0 (fun cur e=>by cases e))⟩,(Below.heap_setCell _ _ _ l (fun e=>hBil e.symm)).trans h.L,(Below.heap_setCell _ _ _ D (fun e=>hBiD e.symm)).trans h.K,h.below.setCell h0i _⟩
 gi_loopw [] (fun wr=> ∃ (pre:List Nat) (c:Nat),c<16777216/\pre++eL c=eL q/\LsAt w0 fn s0 fv Bo l D pre wr/\wr.heap[Bi]? =some (.cells #[.int .u32 (c:Int)] 78 (0,0)))
  (fun wr=>Ff Bi wr)
 case atStart=>exact ⟨[],q,hsl,rfl,hA1,hi1⟩
 case round=>
  obtain ⟨pre,c,hc,hp,hA,hb⟩:=hrel
  clear hc0 hf0 ha hi1 hA1
  obtain ⟨hc1,hf1⟩:=m6 hb
  by_cases hz:c=0
  ·subst hz
   rw [akZ,arE] at hp
   gi_wp2
   go_end0
   exact ⟨⟨_,rfl⟩,hp▸hA⟩
  ·have hne:((c:Int)==0)=false:=by simp;omega
   have hne': ¬ ((c:Int)=0):=by omega
   have hstep:=ak1 c hz hc
   have hpl:pre.length<24:=by
    have h1:=ak0 q
    have h2:=congrArg List.length hp
    rw [hstep.1,List.length_append,aq5] at h2
    omega
   obtain ⟨fn',tmps,assign,body,hy,hR⟩:=agB F (n-1) w0 fn hfn s0 fv Bo Bi l D hBl hDl hDB hBiBo hBil h0B h0l pre (Lib.ctz 32 c) (.int .u32 (c:Int)) wr hA hb hpl
   have hT1:=Zq hT hA.below
   have hap:=ZE c hz (by omega)
   unfold auq at hy
   have hyH:Hid (Lib.ctz 32 c=Lib.ctz 32 c):=rfl
   gi_wp2_with (gi_at_call 270;refine (htz c (by omega) hz _ hT1).mono ?_;rintro e w' ⟨rfl,rfl⟩)
   refine hR.mono ?_
   rintro e W3 ⟨rfl,hA3,hb3⟩
   obtain ⟨hc3,hf3⟩:=m6 hb3
   clear hc1 hf1 hA hy hR hT1
   gi_wp2
   have hb4:=Dm (.int .u32 ((c&&&(c-1):Nat):Int)) hb3
   have hlt:=hstep.2
   go_roundw
   case rel=>
    refine ⟨pre++[Lib.ctz 32 c],c&&&(c-1),by omega, ?_, ?_,hb4⟩
    ·rw [<-hp,hstep.1,List.append_assoc];rfl
    ·obtain ⟨v,hv,hrow⟩:=hA3.box
     exact ⟨⟨v,(Below.heap_setCell _ _ _ Bo (fun e=>hBiBo e.symm)).trans hv,hrow.kept (Hj _ _ _) (mr hrow hb3 (fun cur e=>by cases e))⟩,(Below.heap_setCell _ _ _ l (fun e=>hBil e.symm)).trans hA3.L,(Below.heap_setCell _ _ _ D (fun e=>hBiD e.symm)).trans hA3.K,hA3.below.setCell h0i _⟩
   case measure=>rw [LI hb4,LI hb];exact hlt
set_option maxRecDepth 100000 in
set_option maxHeartbeats 2000000 in
theorem agy (F:Fence) (n:Nat) (h266:F.fn 266) (h268:F.fn 268) (h269:F.fn 269) (h270:F.fn 270) (hro:F.round=none) (hn:3<=n) (s:Int) (w:World) (hT:TabAt 0 Lib.deBruijn32tab w)
  (hin: ∀W,CallsIn F (n-1) Tryz.prog 268 #[.int .u32 s] W fun e w'=>e= .returned (.func (.func 269) #[] #[.pointer (some ⟨W.heap.size,0,none⟩)])/\w'=W.alloc (.cells #[.int .u32 s] 78))
  (htz: ∀ (x:Nat),x<4294967296->x≠0-> ∀W',TabAt 0 Lib.deBruijn32tab W'->CallsIn F (n-1-1) Tryz.prog 270 #[.int .u32 x] W' fun e w'=>e= .returned (.int .i64 (Lib.ctz 32 x))/\w'=W'):
  CallsIn F n Tryz.prog 266 #[.int .u32 s] w fun e w'=> ∃v:Value,e= .returned v/\w'.ownsRow w.heap.size 3 1 v (eL (iE s)).length ((eL (iE s)).map auq)/\Below w.heap.size w w':=by
 have h1:1<=n:=by omega
 have eg: ∀args w,(callFunc 269 args).run Tryz.prog w= .ok (.enter 269 args) w:=enters_of Tryz.func269 (by kernel_rfl) rfl
 refine callsIn_of_wp_marks Tryz.func266 rfl h266 ?_ hro
 simp only [Tryz.ntmps266,List.size_toArray,aq5,List.length_nil,Nat.reduceAdd,Nat.reduceSub,Array.replicate_succ,Array.replicate_zero,List.push_toArray,List.append_toArray,as2,List.cons_append]
 gi_wp2_with (gi_at_call 268;refine (hin _).mono ?_;rintro e w' ⟨rfl,rfl⟩)
 refine wpIn_rangeFunc ?_
 intro fn hfn
 rw [hro]
 obtain ⟨fv,hfv⟩: ∃fv:Value,fv= .func (.func 269) #[] #[.pointer (some ⟨w.heap.size+1,0,none⟩)]:=⟨_,rfl⟩
 obtain ⟨W0,hW0⟩: ∃W0,(w.alloc (.cells #[.slice none 0 0] 147)).alloc (.cells #[.int .u32 s] 78)=W0:=⟨_,rfl⟩
 have hs0:W0.heap.size=w.heap.size+2:=by rw [<-hW0];simp
 have hv0:W0.heap[w.heap.size]? =some (.cells #[.slice none 0 0] 147 (0,0)):=by rw [<-hW0];exact (Below.heap_alloc _ _ _ (by simp)).trans (World.alloc_heap_new w _)
 have hi0:W0.heap[w.heap.size+1]? =some (.cells #[.int .u32 s] 78 (0,0)):=by
  rw [<-hW0];have:=World.alloc_heap_new (w.alloc (.cells #[.slice none 0 0] 147)) (.cells #[.int .u32 s] 78);rwa [World.size_alloc] at this
 have hb0:Below w.heap.size w W0:=by rw [<-hW0];exact ((Below.refl _ w).alloc (arq _) _).alloc (by simp) _
 rw [hW0]
 obtain ⟨W1,hW1⟩: ∃W1,(W0.alloc (.deferred (some []))).alloc (.loop (atZ fn s fv w.heap.size W0.heap.size .ready none))=W1:=⟨_,rfl⟩
 have hold: ∀k,k<W0.heap.size->W1.heap[k]? =W0.heap[k]? :=fun k hk=>by
  rw [<-hW1];exact (Below.heap_alloc _ _ k (by simp;omega)).trans (Below.heap_alloc _ _ k hk)
 have hb1:Below w.heap.size w W1:=by rw [<-hW1];exact (hb0.alloc hb0.size _).alloc (by have:=hb0.size;simp;omega) _
 have hM:LsAt w fn s fv w.heap.size (W0.heap.size+1) W0.heap.size [] W1:=
  ⟨⟨_,(hold w.heap.size (by omega)).trans hv0,⟨rfl,.inl ⟨rfl,rfl⟩⟩⟩,
   by rw [<-hW1];have:=World.alloc_heap_new (W0.alloc (.deferred (some []))) (.loop (atZ fn s fv w.heap.size W0.heap.size .ready none));rwa [World.size_alloc] at this,
   by rw [<-hW1];exact (Below.heap_alloc _ _ _ (by simp)).trans (World.alloc_heap_new W0 _),hb1⟩
 refine ⟨W0.heap.size+1,[{target:= .collected W0.heap.size,args:= #[]}],W1,{target:= .fn (.func 269) #[.pointer (some ⟨w.heap.size+1,0,none⟩)],args:= #[.func (.yield (W0.heap.size+1)) #[] #[]]},W1,269,
  #[.func (.yield (W0.heap.size + 1)) #[] #[]] ++ #[.pointer (some ⟨w.heap.size + 1, 0, none⟩)], W1, ?_, ?_, ?_, ?_, fun _ => h1, ?_⟩
 ·rw [<-hW1,hfv];exact run_enterLoop_outer _ _ _ _ _
 ·simp [resolve,go_sem]
 ·intro f' hf';simp [Target.leads] at hf';subst hf';exact h269
 ·simp [invoke,go_sem,eg]
 ·refine (agA F (n-1) h269 h270 hro (by omega) w fn hfn s fv w.heap.size (w.heap.size+1) (W0.heap.size+1) W0.heap.size (by omega) (by omega) (by omega) (by omega) (by omega) (by omega) (arq _) (by omega) (by omega) hT s W1 hM ((hold _ (by omega)).trans hi0) htz).mono ?_
  rintro e W2 ⟨⟨v0,rfl⟩,h2⟩
  obtain ⟨v,hv,hrow⟩:=h2.box
  have hend:=run_endLoop (P:=Tryz.prog) h2.L (by simp [atZ])
  obtain ⟨W3,hW3⟩: ∃W3,W2.putObj (W0.heap.size+1) (.loop {atZ fn s fv w.heap.size W0.heap.size .ready none with state:= .exhausted})=W3:=⟨_,rfl⟩
  rw [hW3] at hend
  have hg3:W2.grownBy W3 (some (W0.heap.size+1)):=by rw [<-hW3];exact rk _ _ _
  have hv3:W3.heap[w.heap.size]? =some (.cells #[v] 147 (0,0)):=by rw [<-hW3];exact (World.putObj_heap_other (by omega)).trans hv
  have hK3:W3.heap[W0.heap.size]? =some (.deferred (some [])):=by rw [<-hW3];exact (World.putObj_heap_other (by omega)).trans h2.K
  have hrow3:=hrow.kept hg3 (mr hrow h2.L (fun cur e=>by cases e))
  have hb3:Below w.heap.size w W3:=h2.below.grown hg3 h2.below.size (fun k e=>by cases e;omega)
  obtain ⟨hc3,hf3⟩:=m6 hv3
  clear hW3
  refine ⟨none,W3,hend, ?_⟩
  clear hfv
  gi_wp2
  rw [show (w.heap.size+1+1)=W0.heap.size by omega]
  refine ⟨by simp,.inl ⟨_,_,rfl,run_takeDeferred hK3, ?_⟩⟩
  exact ⟨_,results_tmp rfl _ _ _,v,rfl,hrow3.kept (rk _ _ _) (mr hrow3 hK3 (fun cur e=>by cases e)),hb3.grown (rk _ _ _) hb3.size (fun k e=>by cases e;omega)⟩
end Go.Proofs.YtgmmefmmnakbpaaGreatDoor
namespace Go.Proofs.YtgmmefmmnakbpaaGreatDoor
open Go PI Go.Shelf Go.RowKit
set_option maxRecDepth 100000
def ai (o:Obj):Prop:= ∃ (cur:Array Value) (e:TypeId) (h:Nat×Nat),o= .cells cur e h/\ ∀j,j<Lib.deBruijn32tab.length->cur[j]? =some (.int .u8 (Lib.deBruijn32tab.getD j 0))
theorem akJ {o:Obj} (ho:ai o) {w:World} (h:w.heap[0]? =some o):TabAt 0 Lib.deBruijn32tab w:=fun j hj=>by
 obtain ⟨cur,e,q,rfl,hc⟩:=ho
 have:=hc j hj
 simp [World.cell?,h,this]
theorem agx (s:Int) (w:World) (hT:TabAt 0 Lib.deBruijn32tab w):Calls Tryz.prog 266 #[.int .u32 s] w fun e w'=> ∃v:Value,e= .returned v/\w'.ownsRow w.heap.size 3 1 v (eL (iE s)).length ((eL (iE s)).map auq)/\Below w.heap.size w w':=
 callsIn_wide.1 (agy Fence.wide 5 trivial trivial trivial trivial rfl (by omega) s w hT (fun W=>callsIn_wide.2 (adi s W)) fun x j q W' h=>callsIn_wide.2 (Tryz.tz32 x j q W' h))
theorem agE (s:Int):ra s=(eL (iE s)).map fun n:Nat=>(n:Int):=by
 unfold ra eL iE
 have:(arU 24).filter ((BitVec.ofInt 32 s).toNat&&&16777215).testBit=(arU 24).filter fun i=>(BitVec.ofInt 32 s).getLsbD i:=List.filter_congr fun i h=>by
  have h:i<24:=List.mem_range.1 h
  have j:(16777215:Nat)=2^24-1:=by decide
  rw [Nat.testBit_and,j,Nat.testBit_two_pow_sub_one,decide_eq_true h,Bool.and_true];rfl
 rw [this];rfl
theorem ZJ {X:Link VV Tryz.prog} {w w':World} {vs:Array Value} {N0:aN} {ν:Nat->Nat} {δ:Nat->Option Nat} {ο:Nat->Array Value} {args:List PU} (x:Given X w vs N0 ν δ ο args []) (hb:Below w.heap.size w w'):
  Back X w w' N0 ν δ ο 0 args.length ν (fun _=>none) [] where
 ext:=⟨hb.os,hb.tape,hb.output,hb.size,fun b q _=>hb.block b q⟩
 le:=arq _
 old:=fun i h=>absurd h (Nat.not_lt_zero i)
 new:=fun i _ h=>absurd h (Nat.not_lt_zero i)
 dnew:=fun j b h=>by cases h
 bnd:={
  inj:=fun i j h=>absurd h (Nat.not_lt_zero i)
  lt:=fun i h=>absurd h (Nat.not_lt_zero i)
  dlt:=fun j b h=>by cases h
  dinj:=fun i j b h=>by cases h
  dν:=fun j b h=>by cases h
  n0:=fun b o h=>⟨Nat.lt_of_lt_of_le (x.bnd.n0 b o h).1 hb.size,fun i h=>absurd h (Nat.not_lt_zero i),fun j h=>by cases h⟩}
 boxes:=fun k b h=>by simp at h
theorem akR {S:Type} (o:Obj) (ho:ai o) (vs:List PU) (bs:List (Box UU)) (κ:Out UU->Option S) (x:S) (h:GZ vs bs κ=some x): ∃out,ci (LL o) acN vs bs out/\κ out=some x:=by
 unfold GZ at h
 split at h
 case h_2=>cases h
 rename_i κ y
 refine ⟨_, ?_,h⟩
 refine ⟨⟨Tryz.f266,Tryz.func266,by kernel_rfl,rfl⟩,fun w vs N0 ν δ ο B=> ?_⟩
 have hs:vs.size=1:=B.size
 have F:=B.args 0 _ rfl
 obtain ⟨v0,J⟩: ∃v0,vs= #[v0]:=by
  obtain ⟨l⟩:=vs
  match l,hs with
  |[v],_=>exact ⟨v,rfl⟩
 subst J
 have F:Rep (LL o) w _ _ v0 (.int .u32 y):=F
 cases F
 have hT:=akJ ho (B.glob 0 o (by simp [LL])).1
 refine (agx y w hT).mono ?_
 rintro e w' ⟨v,rfl,hrow,hb⟩
 refine ⟨ν,fun _=>none,ZJ B hb, ?_⟩
 show Rep (LL o) w' _ _ v (.sl ET.I (ra y) .none)
 rw [agE]
 generalize eL (iE y)=A at hrow
 obtain ⟨hl,T⟩:=hrow
 rcases T with ⟨rfl,hn⟩|⟨g,cap,cur,rfl,W,L,hc,Y,ad,M⟩
 ·have:A=[]:=List.length_eq_zero_iff.1 hn
  subst this
  exact .sl none 0 0 _ _ _ (fun _ _=>undef) rfl (arq _) trivial (fun j x q=>by cases q) (fun j x q=>by cases q)
 ·have z: ∀j x,(A.map fun n:Nat=>(n:Int))[j]? =some x->cur.getD j undef= .int .i64 x/\w'.cell? ⟨g,j,none⟩=some (.int .i64 x):=by
   intro j x q
   rw [List.getElem?_map] at q
   cases E:A[j]? with
   |none=>rw [E] at q;cases q
   |some n=>
    rw [E] at q
    injection q with q
    have hj:j<A.length:=(asn.1 E).1
    have h1:(cur.toList.take (A.length*1))[j]? =some (auq n):=by rw [M,List.getElem?_map,E];rfl
    rw [List.getElem?_take_of_lt (by omega)] at h1
    have h2:cur[j]? =some (.int .i64 x):=by rw [<-Array.getElem?_toList,h1,<-q];rfl
    refine ⟨?_,by simp [World.cell?,L,h2]⟩
    rw [as1,h2];rfl
  refine Rep.sl (X:=LL o) (some ⟨g,0,none⟩) A.length cap ET.I (show List Int from A.map fun n:Nat=>(n:Int)) .none (fun j k=>cur.getD (j+k) undef) (List.length_map _) hc trivial (fun j x q k p hp=> ?_) (fun j x q k p hp=> ?_)
  ·match k,hp with
   |0,hp=>
    obtain ⟨h1,h2⟩:=z j x q
    refine ⟨_,rfl, ?_, ?_⟩
    ·have:(⟨g,0,none⟩:Addr).add (j*(LL o).esize ET.I+0)=⟨g,j,none⟩:=by
      rw [Addr.add_lit'];show (⟨g,0+(j*1+0),none⟩:Addr)=_;congr 1;omega
     rw [this,h2];rw [Nat.add_zero,h1]
    ·rintro (hN|⟨i,O,_⟩|⟨i,O⟩)
     ·have:=(B.bnd.n0 _ _ hN).1
      simp at this;omega
     ·exact absurd O (Nat.not_lt_zero i)
     ·cases O
   |k+1,hp=>simp [VV,asF] at hp
  ·match k,hp with
   |0,hp=>
    obtain ⟨h1,h2⟩:=z j x q
    rw [Nat.add_zero,h1]
    have:p= .int .i64 x:=by simpa [VV,asF] using hp.symm
    subst this
    exact .int _ _
   |k+1,hp=>simp [VV,asF] at hp
open Go.Sort
def m7 (a b:Int):Int:=if a<b then-1 else if b<a then 1 else 0
def iY (x y:Cl):Int:=if x.pos=y.pos then m7 x.neg y.neg else m7 x.pos y.pos
def asY (x:Cl):List Value:=[.int .u32 x.pos,.int .u32 x.neg]
theorem EP (a:Int) (W:World):Calls Tryz.prog 253 #[.int .u32 a] W fun e w'=>e= .returned (.bool false)/\w'=W:=by
 go_enter Tryz.func253,Tryz.ntmps253
 go_wp2
 go_ret
 exact ⟨by simp,rfl⟩
set_option maxHeartbeats 1000000 in
theorem JD (a b:Int) (W:World):Calls Tryz.prog 228 #[.int .u32 a,.int .u32 b] W fun e w'=>e= .returned (.int .i64 (m7 a b))/\w'=W:=by
 unfold m7
 by_cases h1:a<b
 ·rw [if_pos h1]
  go_enter Tryz.func228,Tryz.ntmps228
  go_wp2_with (go_at_call 253;refine (EP _ _).mono ?_;rintro e w' ⟨rfl,rfl⟩)
  go_ret
  exact ⟨rfl,rfl⟩
 ·rw [if_neg h1]
  by_cases h2:b<a
  ·rw [if_pos h2]
   go_enter Tryz.func228,Tryz.ntmps228
   go_wp2_with (go_at_call 253;refine (EP _ _).mono ?_;rintro e w' ⟨rfl,rfl⟩)
   go_ret
   exact ⟨rfl,rfl⟩
  ·rw [if_neg h2]
   go_enter Tryz.func228,Tryz.ntmps228
   go_wp2_with (go_at_call 253;refine (EP _ _).mono ?_;rintro e w' ⟨rfl,rfl⟩)
   go_ret
   exact ⟨rfl,rfl⟩
set_option maxHeartbeats 1000000 in
theorem Z6 (x y:Cl) (W:World):Calls Tryz.prog 203 #[.agg (asY x).toArray,.agg (asY y).toArray] W fun e w'=>e= .returned (.int .i64 (iY x y))/\ ∃q j,w'=grow (W.drewN q) j:=by
 obtain ⟨a,b⟩:=x
 obtain ⟨a',z⟩:=y
 have h1:=JD a a'
 have h2:=JD b z
 unfold iY
 simp only [asY]
 generalize m7 a a'=r1 at h1 ⊢
 generalize m7 b z=A at h2 ⊢
 by_cases h:a=a'
 ·rw [if_pos h]
  go_enter Tryz.func203,Tryz.ntmps203
  go_wp2_with (go_at_call 228;refine (h2 _).mono ?_;rintro e w' ⟨rfl,rfl⟩)
  go_ret
  exact ⟨rfl,0,_,by rw [alloc_eq_grow,alloc_eq_grow,grow_grow];rfl⟩
 ·rw [if_neg h]
  go_enter Tryz.func203,Tryz.ntmps203
  go_wp2_with (go_at_call 228;refine (h1 _).mono ?_;rintro e w' ⟨rfl,rfl⟩)
  go_ret
  exact ⟨rfl,0,_,by rw [alloc_eq_grow,alloc_eq_grow,grow_grow];rfl⟩
theorem uS (x y:Cl):ltOf iY x y=(decide (x.pos<y.pos)||(decide (x.pos=y.pos)&&decide (x.neg<y.neg))):=by
 have h:iY x y<0↔(x.pos<y.pos\/x.pos=y.pos/\x.neg<y.neg):=by
  unfold iY m7
  split<;>split<;>first|omega|(split<;>omega)
 rw [Bool.eq_iff_iff]
 simp only [ltOf,decide_eq_true_eq,Bool.or_eq_true,anZ]
 exact h
theorem akz:SWO (ltOf iY) where
 irrefl x:=by rw [uS];simp
 trans x y z h1 h2:=by rw [uS] at*;simp at*;omega
 ntrans x y z h1 h2:=by rw [uS] at*;simp at*;omega
theorem akV (x y:Cl) (h1:ltOf iY x y=false) (h2:ltOf iY y x=false):x=y:=by
 rw [uS] at*;simp at*
 obtain ⟨a,b⟩:=x
 obtain ⟨a',h⟩:=y
 simp at*
 omega
theorem ada:(fun x y:Cl=> !ltOf iY y x)=lq:=by
 funext x y
 rw [uS,Bool.eq_iff_iff]
 simp [lq]
 omega
instance:Inhabited Cl:=⟨⟨0,0⟩⟩
theorem akg (b c:Nat) (d:List Cl) (w:World) (hH:HoldsK asY 2 w b 0 d.toArray) (hb:b<w.heap.size) (j:d.length<4611686018427387904):
  Calls Tryz.prog 202 #[.slice (some ⟨b,0,none⟩) d.length c,.func (.func 203) #[] #[]] w fun e w'=>e= .returned (.tuple #[])/\ ∃n os,w'=sortWorldK asY 2 w b 0 n (sortCl d).toArray os:=by
 have q: ∀args w,(callFunc 203 args).run Tryz.prog w= .ok (.enter 203 args) w:=enters_of Tryz.func203 (by kernel_rfl) rfl
 have h:=AnyQ.slices_SortFunc_total Tryz.sortCl 2 Tryz.isAgg80 Tryz.sizeOf80 asY (fun _=>rfl) (fun x v hv=>by simp [asY] at hv;rcases hv with rfl|rfl<;>rfl) iY akz 203 #[] b 0 c d.toArray w q (fun _ _ _ _ x y=>Z6 x y _) hH hb j akV
 rw [ada] at h
 exact h
theorem akh (p:Option Addr) (c:Nat) (w:World):Calls Tryz.prog 202 #[.slice p 0 c,.func (.func 203) #[] #[]] w fun e w'=>e= .returned (.tuple #[])/\w'=w:=
 AnyF.slices_SortFunc_none Tryz.sortCl p c _ w
theorem akf {m:Nat} {d:Array Cl} {os:Array Obj} {w:World} {b k:Nat} (hk:k<w.heap.size) (h:k≠b):(sortWorldK asY 2 w b 0 m d os).heap[k]? =w.heap[k]? :=by
 unfold sortWorldK putRowK putRow mapBlock
 rw [heap_grow_old _ _ (by simpa [ahead] using hk)]
 show (w.heap.modify b _)[k]? =_
 rw [Array.getElem?_modify,if_neg (Ne.symm h)]
theorem ake {m:Nat} {d:Array Cl} {os:Array Obj} {w:World} {b:Nat} {cur:Array Value} {e:TypeId} {j:Nat×Nat} (h:w.heap[b]? =some (.cells cur e j)):
  (sortWorldK asY 2 w b 0 m d os).heap[b]? =some (.cells (putCells id 0 (flatK asY 2 d) cur) e j):=by
 have hb:b<w.heap.size:=(asV.1 h).1
 unfold sortWorldK putRowK putRow mapBlock
 rw [heap_grow_old _ _ (by simpa [ahead] using hb)]
 show (w.heap.modify b _)[b]? =_
 rw [Array.getElem?_modify,if_pos rfl,h];rfl
theorem Z4 (x:Cl) {k:Nat} {p:PU} (hp:(asF .C x)[k]? =some p):k<2/\ ∀ (X:Link VV Tryz.prog) (w:World) (N:aN) (g:Gh UU),Rep X w N g (asY x)[k]! p:=by
 match k,hp with
 |0,hp=>cases hp;exact ⟨by omega,fun X w N g=> .int _ _⟩
 |1,hp=>cases hp;exact ⟨by omega,fun X w N g=> .int _ _⟩
 |k+2,hp=>simp [asF] at hp
theorem adf {w:World} {b c:Nat} {l:List Cl} {cur:Array Value} {e:TypeId} (hb:w.heap[b]? =some (.cells cur e (0,0))) (hs:cur.size=c*2) (hl:l.length<=c) (h: ∀ (j:Nat) (x:Cl),l[j]? =some x-> ∀k,k<2->w.cell? ⟨b,j*2+k,none⟩=some (asY x)[k]!):HoldsK asY 2 w b 0 l.toArray:=by
 intro t q
 rw [size_flatK] at q
 have z:t<l.length*2:=by simpa using q
 have hj:t/2<l.length:=by omega
 have A:l[t/2]? =some l.toArray[t/2]! :=by simp [hj]
 refine ⟨?_, ?_⟩
 ·rw [get_flatK _ _ _ _ q]
  have:=h _ _ A (t%2) (Nat.mod_lt _ (by omega))
  rw [asW]
  rw [show t/2*2+t%2=t by omega] at this
  exact this
 ·simp [World.frozen?,hb]
theorem adl {f:Nat} {ps:List PU} {l l':List Cl} (h:EK f ps l=some l'):f=202/\ps=[.func 203 [] []]/\l'=sortCl l:=by
 unfold EK at h
 split at h
 ·injection h with h
  exact ⟨rfl,rfl,h.symm⟩
 ·cases h
theorem Ad (o:Obj):lf (LL o):=by
 intro f ps e l l' h
 have J:K9 f ps e l=some l':=h
 clear h
 cases e with
 |T=>cases J
 |B=>cases J
 |I=>cases J
 |F=>cases J
 |D=>cases J
 |G=>cases J
 |C=>
 obtain ⟨rfl,rfl,rfl⟩:=adl J
 refine ⟨⟨Tryz.f202,Tryz.func202,by kernel_rfl,rfl⟩,fun w vs N0 δ ο hg bf=> ?_⟩
 have hs:vs.size=2:=hg.size
 obtain ⟨v0,v1,rfl⟩: ∃v0 v1,vs= #[v0,v1]:=by
  obtain ⟨l⟩:=vs
  match l,hs with
  |[v,v'],_=>exact ⟨v,v',rfl⟩
 have h0:ObOK (LL o) w (NB N0 0 (fun _=>0) δ) (gB UU 0 fun _=>0) ET.C l v0 .wr (δ 0):=hg.args 0 _ rfl
 have h1:Rep (LL o) w (NB N0 0 (fun _=>0) δ) (gB UU 0 fun _=>0) v1 (.func 203 [] []):=hg.args 1 _ rfl
 cases h1 with
 |func _ _ _ xs ys ha hb _ _=>
 have ad:xs= #[]:=by simpa using ha
 have ao:ys= #[]:=by simpa using hb
 subst ad;subst ao
 obtain ⟨A,n,c,rfl,hl,hc,q,W⟩:=h0.val
 have hl: @List.length Cl l=n:=hl
 cases Y:δ 0 with
 |none=>
  rw [Y] at W q
  obtain ⟨rfl,rfl,rfl⟩:=W.1 rfl
  have:l=([]:List Cl):=List.length_eq_zero_iff.1 hl
  subst this
  refine (akh none 0 w).mono ?_
  rintro e w' ⟨rfl,rfl⟩
  refine ⟨rfl,.refl _ _, ?_⟩
  rw [Y] at h0
  have:sortCl []=[]:=by simp [sortCl]
  rw [this]
  exact h0
 |some b=>
  rw [Y] at W q
  obtain ⟨hu,cur,rfl,hblk,ax,E⟩:=W
  have L:b<w.heap.size:=(asV.1 hblk).1
  have M:cur.size=c*2:=ax
  have hH:HoldsK asY 2 w b 0 l.toArray:=adf hblk M (hl▸hc) fun j x hx k hk=>by
   have hp: ∃p,(asF ET.C x)[k]? =some p/\p= .int .u32 (if k=0 then x.pos else x.neg):=by
    match k,hk with
    |0,_=>exact ⟨_,rfl,rfl⟩
    |1,_=>exact ⟨_,rfl,rfl⟩
   obtain ⟨p,hp,az⟩:=hp
   obtain ⟨a,v,ha,hv,hr,_⟩:=q j x hx k p hp
   injection ha with ha
   subst ha
   subst az
   have a6:w.cell? ⟨b,j*2+k,none⟩=some v:=by
    have:(⟨b,0,none⟩:Addr).add (j*(LL o).esize ET.C+k)=⟨b,j*2+k,none⟩:=by
     rw [Addr.add_lit'];show (⟨b,0+(j*2+k),none⟩:Addr)=_;congr 1;omega
    rw [this] at hv;exact hv
   rw [a6]
   cases hr
   match k,hk with
   |0,_=>rfl
   |1,_=>rfl
  have a7: @List.length Cl l<4611686018427387904:=by
   have:n<=1099511627776:=E.2
   omega
  have z:=akg b c l w hH L a7
  have he:(.slice (some ⟨b,0,none⟩) (@List.length Cl l) c:Value)= .slice (some ⟨b,0,none⟩) n c:=by rw [hl]
  rw [he] at z
  refine z.mono ?_
  rintro e w' ⟨rfl,m,os,rfl⟩
  have hlen:(sortCl l).length= @List.length Cl l:=List.length_mergeSort _
  have a8:=holdsK_sortWorldK_c asY 2 w b 0 l.toArray (sortCl l).toArray m os hH L hlen
  refine ⟨rfl,⟨rfl,rfl,rfl,size_sortWorldK_c asY 2 w b 0 m _ os,fun k hk bc=>akf hk fun e=>bc ?_⟩, ?_⟩
  ·subst e
   exact List.mem_append_right _ (List.mem_filterMap.2 ⟨0,by simp,Y⟩)
  ·refine ⟨_,n,c,rfl,hlen.trans hl,hc,fun j x hx k p hp=> ?_, ?_⟩
   ·obtain ⟨hk,O⟩:=Z4 x hp
    have hj:j<(sortCl l).length:=(asn.1 hx).1
    have:=(a8.cell (i:=j) (c:=k) (by simpa using hj) hk).1
    have he:(sortCl l).toArray[j]! =x:=by
     have:=asn.1 hx
     rw [getElem!_pos _ j (by simpa using hj)];exact this.2
    rw [he] at this
    refine ⟨_,_,rfl, ?_,O _ _ _ _,fun h=>by cases h⟩
    have e:(⟨b,0,none⟩:Addr).add (j*(LL o).esize ET.C+k)=⟨b,0+j*2+k,none⟩:=by
     rw [Addr.add_lit'];show (⟨b,0+(j*2+k),none⟩:Addr)=_;congr 1;omega
    show World.cell? _ (Addr.add _ _)=_
    rw [e];exact this
   ·exact ⟨hu,_,rfl,ake hblk,by simp [putCells];exact M,E⟩
end Go.Proofs.YtgmmefmmnakbpaaGreatDoor
namespace Go.Proofs.YtgmmefmmnakbpaaGreatDoor
open Go PI Go.ChangeShapes Go.WideShapes Go.ChangeAt Go.RowKit
set_option maxRecDepth 100000
theorem own:ownKnob Tryz.prog.godebug=none:=by kernel_rfl
theorem KM:Tryz.prog.globalNamed "math/bits.deBruijn32tab" =some 0:=by kernel_rfl
section
variable {H:Type} {enc:TypeId×Value->H}
structure Kept (W W':World):Prop where
 os:W'.os=W.os
 output:W'.output=W.output
 size:W.heap.size<=W'.heap.size
 block: ∀b,b<W.heap.size->W'.heap[b]? =W.heap[b]?
theorem Kept.sameAt {W W':World} (h:Kept W W') {p:MemPlace} (hp:p.block<W.heap.size):W.sameAt W' p:=by
 cases p with
 |cell b o=>simp only [World.sameAt,World.cell?];rw [h.block b hp]
 |map b=>exact h.block b hp
theorem Kept.kept {W W':World} (h:Kept W W') (may:MemPlace->Prop):W.keptBut W' may:=by
 refine ⟨h.os,h.output,fun i j=> ?_⟩
 rw [h.block i j]
 cases W.heap[i]? with
 |none=>rfl
 |some o=>cases o with
  |cells c t q=>exact ⟨rfl,rfl,rfl,fun _ _=>rfl⟩
  |map es clock=>exact .inr ⟨rfl,rfl⟩
  |_=>rfl
theorem Jk {W W':World} {sp:Nat->Bool} {held:Bool}: ∀ {z:List TypeId} {vs:List Value} {ds:List (DataW H)} {ps:List MemPlace},
  DataW.TrodAll enc Tryz.prog W 0 sp held z vs ds ps->(∀p∈ps,W.sameAt W' p)->DataW.TrodAll enc Tryz.prog W' 0 sp held z vs ds ps
 |[],[],[],_,h,_=>h
 |_::_,_::_,_::_,_,⟨p,q,⟨n,h1⟩,h2,e⟩,hs=>
  ⟨p,q,⟨n,DataW.trod_carry n _ _ _ h1 fun x j=>hs x (by rw [e];exact List.mem_append_left _ j)⟩,Jk h2 (fun x j=>hs x (by rw [e];exact List.mem_append_right _ j)),e⟩
theorem kids:Kids Tryz.prog (· <Tryz.prog.types.size):=kids_rows (by kernel_rfl) (by kernel_rfl)
theorem full: ∀t e,t<Tryz.prog.types.size->Tryz.prog.underlying t=some (.slice e)->0<Tryz.prog.cellsOf e:=slices_full_of Tryz.prog (by kernel_rfl)
theorem ahF {f:Func} {s:ChangeSpec} (hv:s.vars=[]) {dD fresh handsOn again:Bool} {W W':World} {args:Array Value} {ds gs:List (DataW H)} {before:List MemPlace} (hf:f.resultTypes= #[4])
  (hT: ∀t∈f.params.toList,t<Tryz.prog.types.size) (hs:s.fn H ds={results:=[.lit (.bool true)],args:=ds})
  (J:DataW.Whole enc Tryz.prog f.params.toList s.vars dD W args.toList ds gs before) (hk:Kept W W'):s.post enc Tryz.prog f dD fresh handsOn again W args (.bool true) W':=by
 have hold: ∀p∈before,(fun b=>decide (b<W.heap.size)) p.block=true:=fun p hp=>by simpa using J.lt p hp
 have B: ∀p∈before,p.block<W.heap.size:=fun p hp=>by simpa using J.lt p hp
 have F:=J
 obtain ⟨p,q,hA,O,rfl,T,hn⟩:=J
 rw [hv] at O
 obtain ⟨rfl,rfl⟩:=trodVars_none O
 rw [arE] at hold B T hn F
 have E:s.fn H (ds++[])={results:=[.lit (.bool true)],args:=ds}:=by rw [arE];exact hs
 have Y:(Value.bool true).resultList f.resultTypes.size=[.bool true]:=by rw [hf];rfl
 have A: ∀ (b:Nat) (sp:Nat->Bool) (hd:Bool),DataW.TrodAll enc Tryz.prog W' b sp hd f.resultTypes.toList ((Value.bool true).resultList f.resultTypes.size) (s.fn H (ds++[])).results []:=fun b sp hd=>by
  rw [Y,E,hf]
  exact trodAll_cons_mk (shut_bool Tryz.underlying4 _) trodAll_mk0
 have h: ∀sp:Nat->Bool,(∀L∈p,sp L.block=true)->DataW.TrodAll enc Tryz.prog W' 0 sp true f.params.toList args.toList (s.fn H (ds++[])).args p:=fun sp M=>by
  rw [E]
  exact DataW.TrodAll.respare kids full hT (Jk hA fun x hx=>hk.sameAt (B x hx)) M
 have z: ∀sp:Nat->Bool,DataW.TrodVars enc Tryz.prog W' sp s.vars (s.fn H (ds++[])).vars []:=fun sp=>by rw [hv,E];rfl
 refine ⟨ds,[],p,[],p,[],F,A _ _ _,h _ hold,z _,World.keptBut_mono (fun L hp=>hp.elim) (hk.kept fun _=>False),fun _=> ?_⟩
 refine ⟨fun j t r h1 h2=> ?_,_,_,([]++p)++[],⟨[]++p,[],trodAll_append (h _ (fun _ _=>rfl)) (A _ _ _),z _,rfl, ?_, ?_⟩, ?_⟩
 ·rw [hf] at h1
  rw [Y] at h2
  match j,h1,h2 with
  |0,h1,h2=>cases h1;cases h2;exact okWide_bool_mk Tryz.underlying4 _
  |j+1,h1,h2=>simp at h2
 ·intro b off hp
  have I:MemPlace.cell b off∈p:=by simpa using hp
  have:=T b off I
  simp only [World.frozen?] at this ⊢
  rw [hk.block b (B _ I)]
  exact this
 ·intro ha
  have:=hn ha
  simpa using this
 ·intro L hp _
  simpa using hp
variable {w:World} {spare:Nat->Bool} {held:Bool} {o:Obj} {N:aN} {g:Gh UU}
theorem Zs {v:Value} {n:Nat} (h:v.cells.toList.length=n+2): ∃vs:Array Value,v= .agg vs/\vs.toList=v.cells.toList:=by
 cases v with
 |agg vs=>exact ⟨vs,rfl,rfl⟩
 |_=>simp [Value.cells] at h
theorem ZG (E: ∀b o,¬N b o) {v:Value} {d:DataW H} {ps:List MemPlace} (h:DataW.Trod enc Tryz.prog w 0 spare held 27 v d ps): ∃t:Tm,Rep (LL o) w N g v (.agg (asF ET.T t))/\QT t d:=by
 obtain ⟨n,hn⟩:=h
 obtain ⟨t,F,I⟩:=(ahu (o:=o) (g:=g) E n).1 _ _ _ hn
 obtain ⟨_,_,_,_,hl,_,_⟩:=DataW.trod_struct Tryz.underlying27 hn
 have q:v.cells.toList.length=6:=hl.trans (by kernel_rfl)
 obtain ⟨vs,rfl,x⟩:=Zs (n:=4) q
 refine ⟨t,Rep.agg (X:=LL o) vs (asF ET.T t) (by rw [<-Array.length_toList,x,q];rfl) fun j p hp=> ?_,I⟩
 obtain ⟨B,z,A⟩:=F j p hp
 have:vs.getD j undef=B:=by
  have h2:vs[j]? =some B:=by rw [<-Array.getElem?_toList,x];exact z
  rw [as1,h2];rfl
 rw [this];exact A
theorem adb {o:Obj} {W:World} (x:W.heap[0]? =some o) {vs:Array Value} {ps:List PU} (hs:vs.size=ps.length) (hp:ps.all PV.notFresh=true)
  (h: ∀ (j:Nat) p,ps[j]? =some p->Rep (LL o) W (NB (fun _ _=>False) 0 (fun _=>0) fun _=>none) (gB UU 0 fun _=>0) (vs.getD j undef) p):Given (LL o) W vs (fun _ _=>False) (fun _=>0) (fun _=>none) (fun _=> #[]) ps [] where
 bnd:=⟨fun i j q=>absurd q (Nat.not_lt_zero i),fun i q=>absurd q (Nat.not_lt_zero i),fun j b h=>(by cases h),fun i j b h=>(by cases h),fun j b h=>(by cases h),fun b o h=>h.elim⟩
 size:=hs
 dom:=fun j b h=>by cases h
 glob:=fun b z hb=>by
  simp [LL] at hb
  obtain ⟨rfl,rfl⟩:=hb
  exact ⟨x,fun i q=>absurd q (Nat.not_lt_zero i),fun j h=>by cases h⟩
 args:=fun j p hj=>RepG.of (h j p hj)
 boxes:=fun k b h=>by simp at h
 oz:=fun _ _=>rfl
theorem noN: ∀b o,¬NB (fun _ _=>False) 0 (fun _=>0) (fun _=>none) b o:=by
 rintro b o (h|⟨k,hk,_⟩|⟨j,h⟩)
 ·exact h
 ·exact absurd hk (Nat.not_lt_zero k)
 ·cases h
theorem ZW {o:Obj} {f:FuncId} {ps:List PU} (h:ci (LL o) f ps [] (.ret (.bool true) [])) {W:World} {vs:Array Value} (x:Given (LL o) W vs (fun _ _=>False) (fun _=>0) (fun _=>none) (fun _=> #[]) ps []):
  Calls Tryz.prog f vs W fun e W'=>e= .returned (.bool true)/\Kept W W':=by
 refine (h.2 W vs _ _ _ _ x).mono ?_
 rintro e W' he
 cases e with
 |returned z=>
  obtain ⟨ν',δ',hb,j⟩:=he
  have j:Rep (LL o) W' _ _ z (.bool true):=j
  cases j
  refine ⟨rfl,hb.ext.os,hb.ext.output,hb.ext.size,fun b q=>hb.ext.block b q fun A=> ?_⟩
  simp [avg] at A
 |panicked B=>exact he.elim
 |outgrown=>exact he.elim
theorem akK {H:Type}:(Rows.laid_math_bits_deBruijn32tab:DataW H)=Lib.tabData .u8 (Lib.deBruijn32tab.map fun n:Nat=>(n:Int)):=rfl
theorem akL {W:World} (h:laidMetH Tryz.prog [("math/bits.deBruijn32tab",Rows.laid_math_bits_deBruijn32tab)] W): ∃o,ai o/\W.heap[0]? =some o:=by
 have h':laidMet Tryz.prog [("math/bits.deBruijn32tab",Rows.laid_math_bits_deBruijn32tab)] W:=h
 rw [akK] at h'
 have z:Lib.TabIs Tryz.prog W "math/bits.deBruijn32tab" .u8 (Lib.deBruijn32tab.map fun n:Nat=>(n:Int)):=
  Lib.tabIs_of_head (rest:=[]) KM (by kernel_rfl) Tryz.underlying233 Tryz.underlying5 (by kernel_rfl) (by kernel_rfl) h'
 have hc: ∀j,j<Lib.deBruijn32tab.length->W.cell? ⟨0,j,none⟩=some (.int .u8 (Lib.deBruijn32tab.getD j 0:Nat)):=fun j hj=>by
  rw [z.cell KM j (by simpa using hj)]
  simp [List.getD,hj]
 have x:=hc 0 (by decide)
 cases q:W.heap[0]? with
 |none=>simp [World.cell?,q] at x
 |some o=>
  cases o with
  |cells cur e A=>
   refine ⟨_,⟨cur,e,A,rfl,fun j hj=> ?_⟩,rfl⟩
   have:=hc j hj
   simpa [World.cell?,q] using this
  |_=>simp [World.cell?,q] at x
end
end Go.Proofs.YtgmmefmmnakbpaaGreatDoor
namespace Go.Proofs.YtgmmefmmnakbpaaGreatDoor
open Go PI
set_option maxRecDepth 100000
noncomputable section
abbrev Rw (S:Type):=List PU->List (Box UU)->(Out UU->Option S)->Option S
abbrev Kn (S:Type):=(Out UU->Option S)->Option S
noncomputable def iI (n:Int):PU:= .int .i64 n
noncomputable def iU (n:Int):PU:= .int .u32 n
noncomputable def pt (i:Nat):PU:= .ptr i 0
noncomputable def aT (t:Tm):PU:= .agg [.int .i64 t.kind,.int .i64 t.n,.str t.name,bZ t.r .none,dO t.kids .none,dN t.sys .none]
noncomputable def aC (c:Cl):PU:= .agg [.int .u32 c.pos,.int .u32 c.neg]
noncomputable def aB (b:Br Tm):PU:= .agg [bZ b.face .none,dO b.kids .none]
noncomputable def bT (t:Tm):Box UU:= .cells [.int .i64 t.kind,.int .i64 t.n,.str t.name,bZ t.r .none,dO t.kids .none,dN t.sys .none]
noncomputable def bC (c:Cl):Box UU:= .cells [.int .u32 c.pos,.int .u32 c.neg]
noncomputable def bI (n:Int):Box UU:= .cells [.int .i64 n]
noncomputable def bb (b:Bool):Box UU:= .cells [.bool b]
noncomputable def sC (l:List Cl):PU:=bZ l .none
noncomputable def sT (l:List Tm):PU:=dO l .none
noncomputable def sB (l:List (Br Tm)):PU:=dN l .none
structure Cd where
 D:Type->Type
 k:{ρ:Type}->ρ->D ρ
 dec:{ρ:Type}->D ρ->PU->Option ρ
 A:{ρ:Type}->D ρ->(PU->ρ->Prop)->Prop
 law: ∀ {ρ:Type} (f:D ρ) (v:PU) (r:ρ) (Q:PU->ρ->Prop),A f Q->dec f v=some r->Q v r
structure Cs where
 D:Type->Type
 n:Nat
 k:{ρ:Type}->ρ->D ρ
 dec:{ρ:Type}->D ρ->List PU->Option ρ
 A:{ρ:Type}->D ρ->(List PU->ρ->Prop)->Prop
 law: ∀ {ρ:Type} (f:D ρ) (v:List PU) (r:ρ) (Q:List PU->ρ->Prop),A f Q->dec f v=some r->Q v r
 len: ∀ {ρ:Type} (f:D ρ) (v:List PU) (r:ρ),dec f v=some r->v.length=n
structure Bs where
 D:Type->Type
 n:Nat
 k:{ρ:Type}->ρ->D ρ
 dec:{ρ:Type}->D ρ->List (Box UU)->Option ρ
 A:{ρ:Type}->D ρ->(List (Box UU)->ρ->Prop)->Prop
 law: ∀ {ρ:Type} (f:D ρ) (v:List (Box UU)) (r:ρ) (Q:List (Box UU)->ρ->Prop),A f Q->dec f v=some r->Q v r
 len: ∀ {ρ:Type} (f:D ρ) (v:List (Box UU)) (r:ρ),dec f v=some r->v.length=n
noncomputable def cn:Cs where
 D ρ:=ρ
 n:=0
 k r:=r
 dec f:=fun|[]=>some f|_=> .none
 A f Q:=Q [] f
 law f v r Q h e:=by split at e<;>cases e;exact h
 len f v r e:=by split at e<;>cases e;rfl
noncomputable def cc (c:Cd) (s:Cs):Cs where
 D ρ:=c.D (s.D ρ)
 n:=s.n+1
 k r:=c.k (s.k r)
 dec f:=fun|v::l=>(c.dec f v).bind fun g=>s.dec g l|[]=> .none
 A f Q:=c.A f fun v g=>s.A g fun l r=>Q (v::l) r
 law f v r Q h e:=by
  split at e
  ·obtain ⟨g,h1,h2⟩:=Option.bind_eq_some_iff.1 e
   have:=s.law g _ r _ (c.law f _ g _ h h1) h2;exact this
  ·cases e
 len f v r e:=by
  split at e
  ·obtain ⟨g,h1,h2⟩:=Option.bind_eq_some_iff.1 e
   simp [s.len g _ r h2]
  ·cases e
noncomputable def xn:Bs where
 D ρ:=ρ
 n:=0
 k r:=r
 dec f:=fun|[]=>some f|_=> .none
 A f Q:=Q [] f
 law f v r Q h e:=by split at e<;>cases e;exact h
 len f v r e:=by split at e<;>cases e;rfl
noncomputable def xc (c:Cs) (s:Bs):Bs where
 D ρ:=c.D (s.D ρ)
 n:=s.n+1
 k r:=c.k (s.k r)
 dec f:=fun| .cells v::l=>(c.dec f v).bind fun g=>s.dec g l|_=> .none
 A f Q:=c.A f fun v g=>s.A g fun l r=>Q (.cells v::l) r
 law f v r Q h e:=by
  split at e
  ·obtain ⟨g,h1,h2⟩:=Option.bind_eq_some_iff.1 e
   have:=s.law g _ r _ (c.law f _ g _ h h1) h2;exact this
  ·cases e
 len f v r e:=by
  split at e
  ·obtain ⟨g,h1,h2⟩:=Option.bind_eq_some_iff.1 e
   simp [s.len g _ r h2]
  ·cases e
noncomputable def cI:Cd where
 D ρ:=Int->ρ
 k r:=fun _=>r
 dec f:=fun| .int .i64 n=>some (f n)|_=> .none
 A f Q:= ∀n:Int,Q (iI n) (f n)
 law f v r Q h e:=by split at e<;>cases e;exact h _
noncomputable def cU:Cd where
 D ρ:=Int->ρ
 k r:=fun _=>r
 dec f:=fun| .int .u32 n=>some (f n)|_=> .none
 A f Q:= ∀n:Int,Q (iU n) (f n)
 law f v r Q h e:=by split at e<;>cases e;exact h _
noncomputable def cN (kd:IntKind):Cd where
 D ρ:=Int->ρ
 k r:=fun _=>r
 dec f:=fun| .int q n=>(match decEq q kd with| .isTrue _=>some (f n)| .isFalse _=> .none)|_=> .none
 A f Q:= ∀n:Int,Q (.int kd n) (f n)
 law f v r Q h e:=by
  split at e
  ·split at e
   ·rename_i j _;subst j;cases e;exact h _
   ·cases e
  ·cases e
noncomputable def cb:Cd where
 D ρ:=Bool->ρ
 k r:=fun _=>r
 dec f:=fun| .bool n=>some (f n)|_=> .none
 A f Q:= ∀n:Bool,Q (.bool n) (f n)
 law f v r Q h e:=by split at e<;>cases e;exact h _
noncomputable def cs:Cd where
 D ρ:=ByteArray->ρ
 k r:=fun _=>r
 dec f:=fun| .str n=>some (f n)|_=> .none
 A f Q:= ∀n:ByteArray,Q (.str n) (f n)
 law f v r Q h e:=by split at e<;>cases e;exact h _
noncomputable def lC:Cd where
 D ρ:=List Cl->ρ
 k r:=fun _=>r
 dec f:=fun| .sl .C n .none=>some (f n)|_=> .none
 A f Q:= ∀n:List Cl,Q (sC n) (f n)
 law f v r Q h e:=by split at e<;>cases e;exact h _
noncomputable def lT:Cd where
 D ρ:=List Tm->ρ
 k r:=fun _=>r
 dec f:=fun| .sl .T n .none=>some (f n)|_=> .none
 A f Q:= ∀n:List Tm,Q (sT n) (f n)
 law f v r Q h e:=by split at e<;>cases e;exact h _
noncomputable def lB:Cd where
 D ρ:=List (Br Tm)->ρ
 k r:=fun _=>r
 dec f:=fun| .sl .B n .none=>some (f n)|_=> .none
 A f Q:= ∀n:List (Br Tm),Q (sB n) (f n)
 law f v r Q h e:=by split at e<;>cases e;exact h _
noncomputable def lI:Cd where
 D ρ:=List Int->ρ
 k r:=fun _=>r
 dec f:=fun| .sl .I n .none=>some (f n)|_=> .none
 A f Q:= ∀n:List Int,Q (la n .none) (f n)
 law f v r Q h e:=by split at e<;>cases e;exact h _
noncomputable def lF:Cd where
 D ρ:=List (List Cl)->ρ
 k r:=fun _=>r
 dec f:=fun| .sl .F n .none=>some (f n)|_=> .none
 A f Q:= ∀n:List (List Cl),Q (Hm n .none) (f n)
 law f v r Q h e:=by split at e<;>cases e;exact h _
noncomputable def lD:Cd where
 D ρ:=List Df->ρ
 k r:=fun _=>r
 dec f:=fun| .sl .D n .none=>some (f n)|_=> .none
 A f Q:= ∀n:List Df,Q (slD n .none) (f n)
 law f v r Q h e:=by split at e<;>cases e;exact h _
noncomputable def lG:Cd where
 D ρ:=List Df->ρ
 k r:=fun _=>r
 dec f:=fun| .sl .G n .none=>some (f n)|_=> .none
 A f Q:= ∀n:List Df,Q (slG n .none) (f n)
 law f v r Q h e:=by split at e<;>cases e;exact h _
noncomputable def hC:Cd where
 D ρ:=List Cl->ρ
 k r:=fun _=>r
 dec f:=fun| .fresh .C n=>some (f n)|_=> .none
 A f Q:= ∀n:List Cl,Q (Ev n) (f n)
 law f v r Q h e:=by split at e<;>cases e;exact h _
noncomputable def hT:Cd where
 D ρ:=List Tm->ρ
 k r:=fun _=>r
 dec f:=fun| .fresh .T n=>some (f n)|_=> .none
 A f Q:= ∀n:List Tm,Q (frT n) (f n)
 law f v r Q h e:=by split at e<;>cases e;exact h _
noncomputable def hB:Cd where
 D ρ:=List (Br Tm)->ρ
 k r:=fun _=>r
 dec f:=fun| .fresh .B n=>some (f n)|_=> .none
 A f Q:= ∀n:List (Br Tm),Q (frB n) (f n)
 law f v r Q h e:=by split at e<;>cases e;exact h _
noncomputable def nB:Cd where
 D ρ:=ρ
 k r:=r
 dec f:=fun| .sl .B l .nil=>(match (l:List (Br Tm)) with|[]=>some f|_::_=> .none)|_=> .none
 A f Q:=Q (dN [] .nil) f
 law f v r Q h e:=by
  split at e
  ·split at e
   ·cases e;exact h
   ·cases e
  ·cases e
noncomputable def cT:Cd where
 D ρ:=Tm->ρ
 k r:=fun _=>r
 dec f:=fun| .agg [.int .i64 a,.int .i64 b,.str c,.sl .C d .none,.sl .T e .none,.sl .B g .none]=>some (f (Tm.mk a b c d e g))|_=> .none
 A f Q:= ∀t:Tm,Q (aT t) (f t)
 law f v r Q h e:=by split at e<;>cases e;exact h (Tm.mk _ _ _ _ _ _)
noncomputable def cC:Cd where
 D ρ:=Cl->ρ
 k r:=fun _=>r
 dec f:=fun| .agg [.int .u32 a,.int .u32 b]=>some (f ⟨a,b⟩)|_=> .none
 A f Q:= ∀t:Cl,Q (aC t) (f t)
 law f v r Q h e:=by split at e<;>cases e;exact h (⟨_,_⟩)
noncomputable def cB:Cd where
 D ρ:=Br Tm->ρ
 k r:=fun _=>r
 dec f:=fun| .agg [.sl .C a .none,.sl .T b .none]=>some (f (Br.mk a b))|_=> .none
 A f Q:= ∀t:Br Tm,Q (aB t) (f t)
 law f v r Q h e:=by split at e<;>cases e;exact h (Br.mk _ _)
noncomputable def xT (s:Bs):Bs where
 D ρ:=Tm->s.D ρ
 n:=s.n+1
 k r:=fun _=>s.k r
 dec f:=fun| .cells [.int .i64 a,.int .i64 b,.str c,.sl .C d .none,.sl .T e .none,.sl .B g .none]::l=>s.dec (f (Tm.mk a b c d e g)) l|_=> .none
 A f Q:= ∀t:Tm,s.A (f t) fun l r=>Q (bT t::l) r
 law f v r Q h e:=by
  split at e
  ·have:=s.law _ _ r _ (h (Tm.mk _ _ _ _ _ _)) e;exact this
  ·cases e
 len f v r e:=by
  split at e
  ·simp [s.len _ _ r e]
  ·cases e
noncomputable def xC (s:Bs):Bs where
 D ρ:=Cl->s.D ρ
 n:=s.n+1
 k r:=fun _=>s.k r
 dec f:=fun| .cells [.int .u32 a,.int .u32 b]::l=>s.dec (f ⟨a,b⟩) l|_=> .none
 A f Q:= ∀t:Cl,s.A (f t) fun l r=>Q (bC t::l) r
 law f v r Q h e:=by
  split at e
  ·have:=s.law _ _ r _ (h (⟨_,_⟩)) e;exact this
  ·cases e
 len f v r e:=by
  split at e
  ·simp [s.len _ _ r e]
  ·cases e
noncomputable def xI (s:Bs):Bs where
 D ρ:=Int->s.D ρ
 n:=s.n+1
 k r:=fun _=>s.k r
 dec f:=fun| .cells [.int .i64 a]::l=>s.dec (f a) l|_=> .none
 A f Q:= ∀t:Int,s.A (f t) fun l r=>Q (bI t::l) r
 law f v r Q h e:=by
  split at e
  ·have:=s.law _ _ r _ (h _) e;exact this
  ·cases e
 len f v r e:=by
  split at e
  ·simp [s.len _ _ r e]
  ·cases e
noncomputable def cp (i:Nat):Cd where
 D ρ:=ρ
 k r:=r
 dec f:=fun| .ptr j 0=>(match decEq j i with| .isTrue _=>some f| .isFalse _=> .none)|_=> .none
 A f Q:=Q (pt i) f
 law f v r Q h e:=by
  split at e
  ·split at e
   ·rename_i q _;subst q;cases e;exact h
   ·cases e
  ·cases e
noncomputable def cg (s:Cs):Cd where
 D ρ:=s.D ρ
 k r:=s.k r
 dec f:=fun| .agg l=>s.dec f l|_=> .none
 A f Q:=s.A f fun l r=>Q (.agg l) r
 law f v r Q h e:=by
  split at e
  ·have:=s.law f _ r _ h e;exact this
  ·cases e
noncomputable def cf (i:Nat) (s:Cs) (u:Cs):Cd where
 D ρ:=s.D (u.D ρ)
 k r:=s.k (u.k r)
 dec f:=fun| .func j l m=>(match decEq j i with| .isTrue _=>(s.dec f l).bind fun g=>u.dec g m| .isFalse _=> .none)|_=> .none
 A f Q:=s.A f fun l g=>u.A g fun m r=>Q (.func i l m) r
 law f v r Q h e:=by
  split at e
  ·split at e
   ·rename_i q _
    subst q
    obtain ⟨g,h1,h2⟩:=Option.bind_eq_some_iff.1 e
    have:=u.law g _ r _ (s.law f _ g _ h h1) h2;exact this
   ·cases e
  ·cases e
noncomputable def aj {S:Type} (K:Cs) (B:Bs) (F:K.D (B.D (Kn S))):Rw S:=fun vs bs κ=>(K.dec F vs).bind fun g=>(B.dec g bs).bind fun h=>h κ
noncomputable def uy (K:Cs) (B:Bs) (vs:List PU) (bs:List (Box UU)):Bool:=((K.dec (K.k (B.k ())) vs).bind fun g=>B.dec g bs).isSome
noncomputable def AA {S:Type} (K:Cs) (B:Bs) (F:K.D (B.D (Kn S))) (Q:List PU->List (Box UU)->Kn S->Prop):Prop:=K.A F fun vs g=>B.A g fun bs h=>Q vs bs h
theorem Ay {S:Type} {K:Cs} {B:Bs} {F:K.D (B.D (Kn S))} {Q:List PU->List (Box UU)->Kn S->Prop} (hA:AA K B F Q) {vs:List PU} {bs:List (Box UU)} {κ:Out UU->Option S} {x:S} (h:aj K B F vs bs κ=some x):
  ∃g,Q vs bs g/\g κ=some x/\vs.length=K.n/\bs.length=B.n:=by
 obtain ⟨g,h1,h2⟩:=Option.bind_eq_some_iff.1 h
 obtain ⟨u,j,q⟩:=Option.bind_eq_some_iff.1 h2
 have:=K.law F vs g _ hA h1
 have:=B.law g bs u _ this j
 exact ⟨u,this,q,K.len _ _ _ h1,B.len _ _ _ j⟩
noncomputable def Tl {S:Type} (o:Obj) (f:Nat) (r:Rw S):Prop:= ∀vs bs κ x,r vs bs κ=some x-> ∃out,ci (LL o) f vs bs out/\κ out=some x
noncomputable def vt {S:Type}:List (Nat×Rw S)->Oracle UU S
 |[],_,_,_,_=> .none
 |(g,r)::l,f,vs,bs,κ=>bif ar3 f g then r vs bs κ else vt l f vs bs κ
noncomputable def TA {S:Type} (o:Obj):List (Nat×Rw S)->Prop
 |[]=>True
 |(f,r)::l=>Tl o f r/\TA o l
theorem TA.tells {S:Type} {o:Obj}: ∀ {l:List (Nat×Rw S)},TA o l->(vt l).Tells (ci (LL o))
 |[],_,f,vs,bs,κ,x,h=>by cases h
 |(g,r)::l,hl,f,vs,bs,κ,x,h=>by
  unfold vt at h
  cases hb:ar3 f g with
  |true=>
   rw [hb] at h
   have:=Nat.eq_of_beq_eq_true hb
   subst this
   exact hl.1 _ _ _ _ h
  |false=>
   rw [hb] at h
   exact TA.tells hl.2 _ _ _ _ _ h
noncomputable def ol {S:Type} (b:List PU->List (Box UU)->Bool) (r q:Rw S):Rw S:=fun vs bs κ=>bif b vs bs then r vs bs κ else q vs bs κ
theorem vw {S:Type} {o:Obj} {f:Nat} {b:List PU->List (Box UU)->Bool} {r q:Rw S} (h1:Tl o f r) (h2:Tl o f q):Tl o f (ol b r q):=fun vs bs κ x h=>by
 unfold ol at h
 rcases ZM h with h|h
 ·exact h1 _ _ _ _ h
 ·exact h2 _ _ _ _ h
structure Fx (S:Type) where
 sd:Side UU
 rows:List (Nat×Rw S)
 loops:List (Nat×Ann×List Bool)
 k:Nat
 fn:Func
 kp:Bool
 hn:List Bool
 nb:Nat
 cd:Option (PU->Oracle UU S)
noncomputable def Jm:List (Nat×Ann×List Bool)->Nat->Option Ann
 |[],_=> .none
 |(i,a,_)::l,n=>bif ar3 n i then some a else Jm l n
noncomputable def Fl:List (Nat×Ann×List Bool)->Nat->Ann×List Bool
 |[],_=>(⟨[],[]⟩,[])
 |(i,a)::l,n=>bif ar3 n i then a else Fl l n
noncomputable def aS (rs:List Nat) (bs:List (Nat×Nat)):Ann:=⟨rs.map fun n=>(n,.none),bs.map fun p=>(p.1,List.replicate p.2 .none)⟩
noncomputable def ap:Nat->Nat->List Bool
 |0,_=>[]
 |n+1,b=>ar3 (b%2) 1::ap n (b/2)
noncomputable def fx {S:Type} (nt:Nat) (h:Nat->List Bool) (ip:Nat->Bool) (rows:List (Nat×Rw S)) (loops:List (Nat×Ann×List Bool)) (k:Nat) (fn:Func) (kp:Bool) (hn:List Bool) (nb:Nat):Fx S:=
 ⟨⟨nt,h,ip,.none,fun _=>false⟩,rows,loops,k,fn,kp,hn,nb,.none⟩
noncomputable def fp {S:Type} (nt:Nat) (rows:List (Nat×Rw S)) (loops:List (Nat×Ann×List Bool)) (k:Nat) (fn:Func) (nb:Nat):Fx S:=fx nt (fun _=>[]) (fun _=>false) rows loops k fn false [] nb
variable {S:Type}
noncomputable def Fx.oc (F:Fx S):Oracle UU S:=vt F.rows
noncomputable def Fx.an (F:Fx S):Nat->Option Ann:=Jm F.loops
noncomputable def Fx.go (F:Fx S) (c:Code) (σ:St UU) (κ:Ex UU->St UU->Option S):Option S:=PI.run VV F.sd F.oc F.an F.k c σ κ
noncomputable def Fx.kt (F:Fx S) (κ:Out UU->Option S) (p:List Bool) (h:List (St UU->Option S)):Ex UU->St UU->Option S:=match F.cd with
 | .none=>kn VV F.sd F.oc F.an F.k (atJ F.fn) p h F.an (kF VV F.oc F.kp F.hn F.fn F.nb κ)
 |some C=>Lz VV F.sd F.oc F.an F.k (atJ F.fn) p h F.an (kF VV F.oc F.kp F.hn F.fn F.nb κ) (kD VV F.oc C F.kp F.hn F.fn F.nb κ)
noncomputable def Fx.run (F:Fx S) (vs:List PU) (bs:List (Box UU)) (κ:Out UU->Option S):Option S:=match F.cd with
 | .none=>rC VV F.sd F.oc F.an F.k F.kp F.hn F.fn vs bs κ
 |some C=>G4 VV F.sd F.oc F.an F.k C F.kp F.hn F.fn vs bs κ
noncomputable def Fx.A (F:Fx S) (i:Nat):Ann:=(Fl F.loops i).1
noncomputable def Fx.p (F:Fx S) (i:Nat):List Bool:=(Fl F.loops i).2
noncomputable def Fx.lp (F:Fx S) (κ:Out UU->Option S) (i:Nat) (h:List (St UU->Option S)) (n:Nat) (σ:St UU):Option S:=
 uR (atb (F.A i)) (fun σ κ=>F.go (g9 (atJ F.fn) (F.p i++[false])) σ κ) n σ (F.kt κ (F.p i) h)
noncomputable def Fx.st (F:Fx S) (κ:Out UU->Option S) (i:Nat) (h:List (St UU->Option S)) (r:St UU->Option S) (σ:St UU):Option S:=
 F.go (g9 (atJ F.fn) (F.p i++[false])) σ (back (atb (F.A i)) r (F.kt κ (F.p i) h))
noncomputable def Fx.jn (F:Fx S) (κ:Out UU->Option S) (i:Nat) (h:List (St UU->Option S)) (n:Nat) (σ:St UU):Option S:=
 ER (fun σ κ=>F.go (g9 (atJ F.fn) (F.p i)) σ κ) n σ (F.kt κ (F.p i) h)
noncomputable def Fx.sj (F:Fx S) (κ:Out UU->Option S) (i:Nat) (h:List (St UU->Option S)) (σ:St UU):Option S:=F.go (g9 (atJ F.fn) (F.p i)) σ (F.kt κ (F.p i) h)
theorem Fx.lp_succ (F:Fx S) (κ:Out UU->Option S) (i:Nat) (h:List (St UU->Option S)) (n:Nat) (σ:St UU):F.lp κ i h (n+1) σ=F.st κ i h (fun τ=>F.lp κ i h n τ) σ:=rfl
theorem Fx.jn_succ (F:Fx S) (κ:Out UU->Option S) (i:Nat) (h:List (St UU->Option S)) (n:Nat) (σ:St UU):F.jn κ i h (n+1) σ=F.sj κ i h σ:=rfl
noncomputable def vu (F:Fx S) (n m:Nat):Bool:=(F.fn.name== "runtime.NumGoroutine")==false&&(F.fn.body.isNone==false&&(ar3 F.fn.ntmps F.sd.nt&&(aoy F.sd.nt 1000000&&(aoy n F.sd.nt&&aoy m 1000000))))
theorem FV {F:Fx S} {n m:Nat} (h:vu F n m=true):(F.fn.name== "runtime.NumGoroutine")=false/\F.fn.body.isNone=false/\F.fn.ntmps=F.sd.nt/\F.sd.nt<=1000000/\n<=F.sd.nt/\m<=1000000:=by
 unfold vu at h
 simp only [anZ,beq_iff_eq] at h
 obtain ⟨h1,h2,j,q,x,z⟩:=h
 exact ⟨h1,h2,Nat.eq_of_beq_eq_true j,Nat.le_of_ble_eq_true q,Nat.le_of_ble_eq_true x,Nat.le_of_ble_eq_true z⟩
theorem ak {o:Obj} {K:Cs} {B:Bs} {R:K.D (B.D (Kn S))} (F:Fx S) {f:FuncId} (q:TA o F.rows) (hf:Tryz.prog.funcs[f]? =some F.fn) (hb:vu F K.n B.n=true) (run:AA K B R fun vs bs g=> ∀κ x,g κ=some x->F.run vs bs κ=some x)
  (h1:F.sd.rcv= .none:=by rfl) (h2:F.sd.pin=(fun _=>false):=by rfl) (z:F.cd= .none:=by rfl):Tl o f (aj K B R):=fun vs bs κ x h=>by
 obtain ⟨g,A,E,hl,O⟩:=Ay run h
 have j:=A κ x E
 unfold Fx.run at j
 rw [z] at j
 obtain ⟨I,J,L,M,T,W⟩:=FV hb
 exact sw (QJ Ax (Ad o) h1 h2 q.tells hf I J L M (by omega) j)
open Classical in
noncomputable def DB {S:Type} (bs:List (Box UU)) (κ:Out UU->Option S):Out UU->Option S
 | .ret v cs=>if cs=bs then κ (.ret v []) else .none
 | .panic .. => .none
theorem tlS {S:Type} {o:Obj} {K:Cs} {B:Bs} {R:K.D (B.D (Kn S))} {f:FuncId} {r:Rw S} (h:Tl o f r) (run:AA K B R fun vs bs g=> ∀κ x,g κ=some x->r vs bs (DB bs κ)=some x):Tl o f (aj K B R):=fun vs bs κ x q=>by
 obtain ⟨g,A,q,_⟩:=Ay run q
 obtain ⟨out,z,j⟩:=h _ _ _ _ (A κ x q)
 cases out with
 |panic v cs=>cases j
 |ret v cs=>
  simp only [DB] at j
  split at j
  case isFalse=>cases j
  rename_i hc
  subst hc
  refine ⟨.ret v [], ?_,j⟩
  have e:Out.full cs (.ret v [])=Out.full cs (.ret v cs):=by
   have hb:aoy cs.length cs.length=true:=by simp
   simp only [Out.full,hb,cond_true]
   cases cs<;>rfl
  unfold ci
  rw [e]
  exact z
open Classical in
noncomputable def au1 {S:Type} (n m:Nat) (bs:List (Box UU)) (κ:Out UU->Option S):Out UU->Option S
 | .ret v cs=>match cs[n]? with
  |some (.cells a)=>if aoy bs.length 1=false/\auy bs [.cells (.int .i64 n::a.take m)]=cs then κ (.ret v [.cells (.int .i64 n::a.take m)]) else .none
  |_=> .none
 | .panic .. => .none
theorem tlP {S:Type} {o:Obj} {K:Cs} {B:Bs} {R:K.D (B.D (Kn S))} {f:FuncId} {r:Rw S} {n m:Nat} (h:Tl o f r) (run:AA K B R fun vs bs g=> ∀κ x,g κ=some x->r vs bs (au1 n m bs κ)=some x):Tl o f (aj K B R):=fun vs bs κ x q=>by
 obtain ⟨g,A,q,_⟩:=Ay run q
 obtain ⟨out,z,j⟩:=h _ _ _ _ (A κ x q)
 cases out with
 |panic v cs=>cases j
 |ret v cs=>
  simp only [au1] at j
  split at j
  case h_2=>cases j
  rename_i a ha
  split at j
  case isFalse=>cases j
  rename_i hc
  obtain ⟨hl,hc⟩:=hc
  refine ⟨.ret v _, ?_,j⟩
  have e:Out.full bs (.ret v [.cells (.int .i64 n::a.take m)])=Out.full bs (.ret v cs):=by
   have h1:Out.full bs (.ret v [.cells (.int .i64 n::a.take m)])= .ret v cs:=by
    simp only [Out.full]
    rw [show [(Box.cells (.int .i64 n::a.take m):Box UU)].length=1 from rfl,hl,cond_false,hc]
   have h2:cs.length=bs.length:=by
    rw [<-hc];unfold auy;split<;>(try split)<;>simp
   have E:aoy bs.length cs.length=true:=by rw [h2];simp
   rw [h1]
   simp only [Out.full,E,cond_true]
  unfold ci
  rw [e]
  exact z
theorem dz {o:Obj} {K:Cs} {B:Bs} {R:K.D (B.D (Kn S))} {f:FuncId} (j:AA K B R fun vs bs g=> ∀κ x,g κ=some x->False):Tl o f (aj K B R):=fun vs bs κ x h=>by
 obtain ⟨g,q,z,_⟩:=Ay j h
 exact (q κ x z).elim
noncomputable def o9 (nt f:Nat) (fn:Func) (k:Nat):PU->Oracle UU S:=fun v g vs bs κ=>bif ar3 g f&&aoy vs.length nt then G5 VV ⟨nt,fun _=>[],fun _=>false,.none,fun _=>false⟩ (vt []) (fun _=> .none) k true [] fn v vs bs κ else .none
theorem yn (o:Obj) {nt f:Nat} {fn:Func} {k:Nat} (hf:Tryz.prog.funcs[f]? =some fn) (hb:vu (fp nt [] [] k fn 0:Fx S) 0 0=true): ∀v u j,RcvOK v u j->(o9 (S:=S) nt f fn k v).Tells (jS (LL o) (jM Tryz.prog u j)):=by
 intro v u j hv g vs bs κ x h
 unfold o9 at h
 cases hc:ar3 g f&&aoy vs.length nt with
 |false=>rw [hc] at h;cases h
 |true=>
  rw [hc] at h
  rw [anZ] at hc
  have:=Nat.eq_of_beq_eq_true hc.1
  subst this
  obtain ⟨q,z,A,B,_,_⟩:=FV hb
  exact sw (aiz Ax (Ad o) rfl rfl (TA.tells (l:=[]) (o:=o) trivial) hf q z A B hv (Nat.le_of_ble_eq_true hc.2) h)
theorem BZ {o:Obj} {K:Cs} {B:Bs} {R:K.D (B.D (Kn S))} (F:Fx S) {f:FuncId} {C:PU->Oracle UU S} (z:F.cd=some C) (hC: ∀v u q,RcvOK v u q->(C v).Tells (jS (LL o) (jM Tryz.prog u q))) (A:TA o F.rows) (hf:Tryz.prog.funcs[f]? =some F.fn) (hb:vu F K.n B.n=true)
  (run:AA K B R fun vs bs g=> ∀κ x,g κ=some x->F.run vs bs κ=some x) (h1:F.sd.rcv= .none:=by rfl):Tl o f (aj K B R):=fun vs bs κ x h=>by
 obtain ⟨g,E,I,hl,T⟩:=Ay run h
 have j:=E κ x I
 unfold Fx.run at j
 rw [z] at j
 obtain ⟨J,L,M,O,W,Y⟩:=FV hb
 exact sw (aix Ax (Ad o) h1 A.tells hC hf J L M O (by omega) (by omega) j)
theorem alG {o:Obj} {K:Cs} {B:Bs} {R:K.D (B.D (Kn S))} (F:Fx S) {f:FuncId} (h:TA o F.rows) (hf:Tryz.prog.funcs[f]? =some F.fn) (run:AA K B R fun vs bs g=> ∀κ x,g κ=some x->F.run vs bs κ=some x) (hb:vu F K.n B.n=true:=by kernel_rfl)
  (h1:F.sd.rcv= .none:=by rfl) (h2:F.sd.pin=(fun _=>false):=by rfl) (j:F.cd= .none:=by rfl):Tl o f (aj K B R):=ak F h hf hb run h1 h2 j
theorem gL {F:Fx S} {κ:Out UU->Option S} {i:Nat} {h:List (St UU->Option S)} {mk:St UU} {l:Nat->Option S} (b:Option S) (j:l 0= .none:=by rfl) (hs: ∀n,l (n+1)=b:=by intros;rfl) (B:F.sj κ i h mk=b:=by intros;kernel_rfl): ∀ (n:Nat),F.jn κ i h n mk=l n:=by
 intro n
 cases n with
 |zero=>intros;rw [j];rfl
 |succ n=>intros;rw [hs,Fx.jn_succ];exact B
theorem cF {F:Fx S} {κ:Out UU->Option S} {i:Nat} {q:List (St UU->Option S)} {j:Type} {mk:j->St UU} {l:Nat->j->Option S} (b:(j->Option S)->j->Option S) (x:l 0=fun h=> .none:=by rfl) (hs: ∀n,l (n+1)=b (l n):=by intros;rfl) (B: ∀ (r:St UU->Option S) h,F.st κ i q r (mk h)=b (fun h=>r (mk h)) h:=by intros;kernel_rfl): ∀ (n:Nat) h,F.lp κ i q n (mk h)=l n h:=by
 intro n
 induction n with
 |zero=>intros;rw [x];rfl
 |succ n z=>
  intros
  rw [hs,Fx.lp_succ,B]
  exact congrArg (fun g=>b g _) (funext fun h=>z h)
theorem nx {F:Fx S} {κ:Out UU->Option S} {i:Nat} {q:List (St UU->Option S)} {h:Type} {mk:h->St UU} {l:Nat->h->Option S} (b:h->Option S) (x:l 0=fun j=> .none:=by rfl) (hs: ∀n,l (n+1)=b:=by intros;rfl) (B: ∀j,F.sj κ i q (mk j)=b j:=by intros;kernel_rfl): ∀ (n:Nat) j,F.jn κ i q n (mk j)=l n j:=by
 intro n
 cases n with
 |zero=>intros;rw [x];rfl
 |succ n=>intros;rw [hs,Fx.jn_succ];exact B _
theorem aL {F:Fx S} {κ:Out UU->Option S} {i:Nat} {x:List (St UU->Option S)} {j q:Type} {mk:j->q->St UU} {l:Nat->j->q->Option S} (b:(j->q->Option S)->j->q->Option S) (z:l 0=fun h x1=> .none:=by rfl) (hs: ∀n,l (n+1)=b (l n):=by intros;rfl) (B: ∀ (r:St UU->Option S) h x1,F.st κ i x r (mk h x1)=b (fun h x1=>r (mk h x1)) h x1:=by intros;kernel_rfl): ∀ (n:Nat) h x1,F.lp κ i x n (mk h x1)=l n h x1:=by
 intro n
 induction n with
 |zero=>intros;rw [z];rfl
 |succ n A=>
  intros
  rw [hs,Fx.lp_succ,B]
  exact congrArg (fun g=>b g _ _) (funext fun h=>funext fun x1=>A h x1)
theorem Lb {F:Fx S} {κ:Out UU->Option S} {i:Nat} {x:List (St UU->Option S)} {h j:Type} {mk:h->j->St UU} {l:Nat->h->j->Option S} (b:h->j->Option S) (z:l 0=fun q x1=> .none:=by rfl) (hs: ∀n,l (n+1)=b:=by intros;rfl) (B: ∀q x1,F.sj κ i x (mk q x1)=b q x1:=by intros;kernel_rfl): ∀ (n:Nat) q x1,F.jn κ i x n (mk q x1)=l n q x1:=by
 intro n
 cases n with
 |zero=>intros;rw [z];rfl
 |succ n=>intros;rw [hs,Fx.jn_succ];exact B _ _
theorem eW {F:Fx S} {κ:Out UU->Option S} {i:Nat} {z:List (St UU->Option S)} {j q x:Type} {mk:j->q->x->St UU} {l:Nat->j->q->x->Option S} (b:(j->q->x->Option S)->j->q->x->Option S) (A:l 0=fun h x1 x2=> .none:=by rfl) (hs: ∀n,l (n+1)=b (l n):=by intros;rfl) (B: ∀ (r:St UU->Option S) h x1 x2,F.st κ i z r (mk h x1 x2)=b (fun h x1 x2=>r (mk h x1 x2)) h x1 x2:=by intros;kernel_rfl): ∀ (n:Nat) h x1 x2,F.lp κ i z n (mk h x1 x2)=l n h x1 x2:=by
 intro n
 induction n with
 |zero=>intros;rw [A];rfl
 |succ n E=>
  intros
  rw [hs,Fx.lp_succ,B]
  exact congrArg (fun g=>b g _ _ _) (funext fun h=>funext fun x1=>funext fun x2=>E h x1 x2)
theorem lp9 {F:Fx S} {κ:Out UU->Option S} {i:Nat} {T:List (St UU->Option S)} {x z A E I J L M O:Type} {mk:x->z->A->E->I->J->L->M->O->St UU} {l:Nat->x->z->A->E->I->J->L->M->O->Option S} (b:(x->z->A->E->I->J->L->M->O->Option S)->x->z->A->E->I->J->L->M->O->Option S) (W:l 0=fun h x1 x2 x3 x4 x5 x6 j q=> .none:=by rfl) (hs: ∀n,l (n+1)=b (l n):=by intros;rfl) (B: ∀ (r:St UU->Option S) h x1 x2 x3 x4 x5 x6 j q,F.st κ i T r (mk h x1 x2 x3 x4 x5 x6 j q)=b (fun h x1 x2 x3 x4 x5 x6 j q=>r (mk h x1 x2 x3 x4 x5 x6 j q)) h x1 x2 x3 x4 x5 x6 j q:=by intros;kernel_rfl): ∀ (n:Nat) h x1 x2 x3 x4 x5 x6 j q,F.lp κ i T n (mk h x1 x2 x3 x4 x5 x6 j q)=l n h x1 x2 x3 x4 x5 x6 j q:=by
 intro n
 induction n with
 |zero=>intros;rw [W];rfl
 |succ n Y=>
  intros
  rw [hs,Fx.lp_succ,B]
  exact congrArg (fun g=>b g _ _ _ _ _ _ _ _ _) (funext fun h=>funext fun x1=>funext fun x2=>funext fun x3=>funext fun x4=>funext fun x5=>funext fun x6=>funext fun j=>funext fun q=>Y h x1 x2 x3 x4 x5 x6 j q)
theorem aG2 {F:Fx S} {κ:Out UU->Option S} {i:Nat} {ao:List (St UU->Option S)} {E I J L M O T W Y ad j:Type} {mk:E->I->J->L->M->O->T->W->Y->ad->j->St UU} {l:Nat->E->I->J->L->M->O->T->W->Y->ad->j->Option S} (b:(E->I->J->L->M->O->T->W->Y->ad->j->Option S)->E->I->J->L->M->O->T->W->Y->ad->j->Option S) (h0:l 0=fun q x1 x2 x3 x4 x5 x6 x z A h=> .none:=by rfl) (hs: ∀n,l (n+1)=b (l n):=by intros;rfl) (B: ∀ (r:St UU->Option S) q x1 x2 x3 x4 x5 x6 x z A h,F.st κ i ao r (mk q x1 x2 x3 x4 x5 x6 x z A h)=b (fun q x1 x2 x3 x4 x5 x6 x z A h=>r (mk q x1 x2 x3 x4 x5 x6 x z A h)) q x1 x2 x3 x4 x5 x6 x z A h:=by intros;kernel_rfl): ∀ (n:Nat) q x1 x2 x3 x4 x5 x6 x z A h,F.lp κ i ao n (mk q x1 x2 x3 x4 x5 x6 x z A h)=l n q x1 x2 x3 x4 x5 x6 x z A h:=by
 intro n
 induction n with
 |zero=>intros;rw [h0];rfl
 |succ n ih=>
  intros
  rw [hs,Fx.lp_succ,B]
  exact congrArg (fun g=>b g _ _ _ _ _ _ _ _ _ _ _) (funext fun q=>funext fun x1=>funext fun x2=>funext fun x3=>funext fun x4=>funext fun x5=>funext fun x6=>funext fun x=>funext fun z=>funext fun A=>funext fun h=>ih q x1 x2 x3 x4 x5 x6 x z A h)
end
end Go.Proofs.YtgmmefmmnakbpaaGreatDoor
namespace Go.Proofs.YtgmmefmmnakbpaaGreatDoor
open Go PI
set_option maxRecDepth 100000
noncomputable def wG:Side UU:=⟨8,fun _=>[],fun _=>false,.none,fun _=>false⟩
noncomputable def AE {S:Type}:Oracle UU S:=fun _ _ _ _=> .none
theorem c1 {S:Type} (κ:Out UU->Option S):rC VV wG AE (fun _=> .none) 5 false [] Tryz.f49 [.sl (U:=UU) ET.C [] .void] [] κ=κ (.ret (bZ [] .none) []):=by kernel_rfl
theorem c2 {S:Type} (l:List Cl) (κ:Out UU->Option S):rC VV wG AE (fun _=> .none) 5 false [] Tryz.f49 [.sl (U:=UU) ET.C l .sure] [] κ=asP (aw 1099511627776 0 l.length) fun _=>κ (.ret (bZ l .none) []):=by kernel_rfl
theorem ahy {S:Type} (o:Obj):(AE (S:=S)).Tells (ci (LL o)):=fun _ _ _ _ _ h=>by cases h
theorem JC (o:Obj) {args:List PU} (hl:args.length=1) {out:Out UU} (h:rC VV wG AE (fun _=> .none) 5 false [] Tryz.f49 args [] some=some out):ci (LL o) 49 args [] out:=by
 obtain ⟨j,h1,h2⟩:=QJ Ax (Ad o) (S:=wG) rfl rfl (ahy o) (f:=49) Tryz.func49 (by kernel_rfl) rfl rfl (by decide) (by rw [hl];decide) h
 injection h1 with h1
 exact h1▸h2
theorem KS {X:Link VV Tryz.prog} {w:World} {vs:Array Value} {N0:aN} {ν:Nat->Nat} {δ:Nat->Option Nat} {ο:Nat->Array Value} {p q:PU} (h:Given X w vs N0 ν δ ο [p] [])
  (x:RepG X w (NB N0 0 ν δ) (gB UU 0 ν) (vs.getD 0 undef) (δ 0) p->RepG X w (NB N0 0 ν δ) (gB UU 0 ν) (vs.getD 0 undef) (δ 0) q):Given X w vs N0 ν δ ο [q] []:=
 {h with
  args:=fun j r hj=>by
   cases j with
   |zero=>
    injection hj with hj
    subst hj
    exact x (h.args 0 p rfl)
   |succ j=>simp at hj}
theorem Z5 (o:Obj) (l:List Cl) {u:Unit} (j:aw 1099511627776 0 l.length=some u):ci (LL o) 49 [bZ l .none] [] (.ret (bZ l .none) []):=by
 refine ⟨⟨Tryz.f49,Tryz.func49,by kernel_rfl,rfl⟩,fun w vs N0 ν δ ο q=> ?_⟩
 have B:Rep (LL o) w (NB N0 0 ν δ) (gB UU 0 ν) (vs.getD 0 undef) (bZ l .none):=q.args 0 _ rfl
 generalize hv:vs.getD 0 undef=v at B
 cases B with
 |sl A n c _ _ _ val hl hc _ h1 h2=>
 cases A with
 |none=>
  have z:l=[]:=by
   cases l with
   |nil=>rfl
   |cons x r=>
    obtain ⟨a,ha,_⟩:=h1 0 x rfl 0 _ rfl
    cases ha
  subst z
  exact (JC o (args:=[bZ [] .void]) rfl (c1 some)).2 w vs N0 ν δ ο (KS q fun _=>by
   rw [hv];exact Rep.sl (X:=LL o) none n c ET.C (show List Cl from []) .void val hl hc rfl h1 h2)
 |some a=>
  refine (JC o (args:=[bZ l .sure]) rfl (out:= .ret (bZ l .none) []) ((c2 l some).trans (by rw [j];rfl))).2 w vs N0 ν δ ο (KS q fun _=> ?_)
  rw [hv]
  exact Rep.sl (X:=LL o) (some a) n c ET.C l .sure val hl hc (fun h=>by cases h) h1 h2
theorem akS {S:Type} (o:Obj) (ho:ai o) (vs:List PU) (bs:List (Box UU)) (κ:Out UU->Option S) (x:S) (h:G2 vs bs κ=some x): ∃out,ci (LL o) acO vs bs out/\κ out=some x:=by
 unfold G2 at h
 split at h
 case h_2=>cases h
 rename_i κ y
 unfold rj at h
 obtain ⟨u,j,h⟩:=Option.bind_eq_some_iff.1 h
 exact ⟨_,Z5 o y j,h⟩
end Go.Proofs.YtgmmefmmnakbpaaGreatDoor
namespace Go.Proofs.YtgmmefmmnakbpaaGreatDoor
open Go PI
set_option maxRecDepth 100000
noncomputable section
variable {S:Type}
noncomputable abbrev arv:Ob UU:=⟨0,ET.B,([]:List (Br Tm))⟩
noncomputable abbrev arI:Ob UU:=⟨0,ET.T,([]:List Tm)⟩
noncomputable abbrev arB:Ob UU:=⟨0,ET.C,([]:List Cl)⟩
noncomputable abbrev arO:PV UU:= .str alH
abbrev an2 (n:Nat):Option (Nat×Bool):=some (n,true)
abbrev km {α:Type}:Option α:= .none
theorem al9 {R S:Type} {k:Nat} {f:(R->Option S)->Option S} {g:R->Option S} {a:Option S} {x:S} (h:aa k f g=some x) (e:a=f g:=by kernel_rfl):a=some x:=e.trans (al h)
def pW:Cs:=cc cI (cc lT cn)
def dV:Cs:=cc cI (cc cI cn)
def Ag:Cs:=cc cT (cc cI cn)
def Lh:Cs:=cc cT (cc cI (cc cI (cc (cp 0) cn)))
def fh:Bs:=xI xn
def kX5:Cs:=cc cT (cc (cf 123 cn (cc (cp 0) cn)) cn)
def kX6:Cs:=cc cT (cc (cf 125 cn (cc (cp 0) cn)) cn)
def xX7:Bs:=xc (cc (cf 124 cn (cc (cp 1) (cc (cp 0) cn))) cn) (xI xn)
def kX8:Cs:=cc cT (cc (cp 0) (cc (cp 1) cn))
def xX9:Bs:=xI (xc (cc (cf 124 cn (cc (cp 0) (cc (cp 1) cn))) cn) xn)
def ar9:Cs:=cc cT cn
def atV:Cs:=cc cI cn
def Ld:Cs:=cc cs cn
def uG:Cs:=cc cU cn
def ny:Cs:=cc cC cn
def uH:Cs:=cc cC (cc cC cn)
def EU:Cs:=cc cC (cc (cp 0) cn)
def wC:Bs:=xC xn
def Le:Cs:=cc lC (cc (cf 200 cn (cc (cp 0) cn)) cn)
def alt:Bs:=xc (cc lC cn) xn
def eo:Cs:=cc lC cn
def jk:Cs:=cc lC (cc lC cn)
def lS:Cs:=cc cU (cc cI cn)
def EV:Cs:=cc lC (cc cI cn)
def Lf:Cs:=cc lC (cc (cf 175 cn cn) cn)
def amR:Cs:=cc cT (cc cI (cc cI cn))
def Lg:Cs:=cc cT (cc cI (cc cI (cc cb cn)))
def adA:Cs:=cc cT (cc cI (cc cI (cc (cp 0) (cc (cp 1) (cc (cp 2) cn)))))
def Ut:Bs:=xI (xI (xc (cc cb cn) xn))
def adB:Cs:=cc cT (cc (cf 75 cn (cc (cp 0) (cc (cp 1) (cc (cp 2) cn)))) cn)
def EW:Cs:=cc lT cn
def EX:Cs:=cc (cp 0) cn
def adC:Cs:=cc cT (cc (cf 181 cn (cc (cp 0) cn)) cn)
def adD:Cs:=cc lF cn
def adE:Cs:=cc cU (cc cI (cc cI cn))
def Li:Cs:=cc cC (cc cI (cc cI cn))
def Lj:Cs:=cc hC (cc cC (cc (cp 0) (cc (cp 1) cn)))
def ayS:Bs:=xI (xI xn)
def aGz:Cs:=cc lC (cc hC (cc (cf 192 cn (cc (cp 0) (cc (cp 1) cn))) cn))
def adG:Cs:=cc lC (cc cI (cc cI cn))
def EY:Cs:=cc (cg (cc cI (cc cI cn))) (cc lC (cc cI cn))
def adH:Cs:=cc (cg (cc cI (cc cI cn))) (cc cT (cc cI (cc cI cn)))
def adI:Cs:=cc (cp 0) (cc (cp 1) (cc (cp 2) cn))
def aDy:Bs:=xI (xI (xT xn))
def aGA:Cs:=cc cT (cc lI (cc (cf 153 cn (cc (cp 0) (cc (cp 1) (cc (cp 2) cn)))) cn))
def adJ:Cs:=cc cT (cc cI (cc cT (cc cI (cc cI cn))))
def E0:Cs:=cc cT (cc (cf 183 cn (cc (cp 0) cn)) cn)
def Ai:Cs:=cc cT (cc cI (cc cT cn))
def adK:Cs:=cc (cp 0) (cc cT (cc cI cn))
def awC:Cs:=cc (cp 0) (cc cT (cc cT cn))
def adL:Cs:=cc cB cn
def E1:Cs:=cc lB (cc (cf 177 cn cn) cn)
def Lk:Cs:=cc lB cn
def aBu:Cs:=cc cT (cc cI (cc lC cn))
def adM:Cs:=cc (cf 212 cn cn) (cc (cp 0) (cc (cp 1) cn))
def awY:Bs:=xI (xc (cc lC cn) xn)
def adO:Cs:=cc (cf 213 cn cn) (cc (cp 0) (cc (cp 1) cn))
def adP:Cs:=cc cI (cc lC cn)
def Ll:Cs:=cc lC (cc (cf 258 cn cn) cn)
def adQ:Cs:=cc lC (cc (cf 259 cn (cc (cp 0) cn)) cn)
def Aj:Cs:=cc lC (cc cC cn)
def E2:Cs:=cc lC (cc lC (cc (cf 256 cn cn) cn))
def aBv:Cs:=cc lC (cc cI (cc lC cn))
def adS:Cs:=cc lC (cc cI (cc (cp 0) (cc (cp 1) (cc (cp 2) cn))))
def aJr:Bs:=xI (xc (cc lC cn) (xc (cc (cf 213 cn cn) cn) xn))
def aGD:Cs:=cc lC (cc cC (cc (cp 0) (cc (cp 1) cn)))
def E3:Cs:=cc lC (cc lC (cc (cf 234 cn (cc (cp 0) (cc (cp 1) cn))) cn))
def Je:Bs:=xI (xc (cc lC cn) (xc (cc (cf 212 cn cn) cn) xn))
def Lm:Cs:=cc (cg (cc (cf 209 cn (cc (cp 0) (cc (cp 1) (cc (cp 2) cn)))) (cc (cf 209 cn (cc (cp 0) (cc (cp 1) (cc (cp 3) cn)))) cn))) (cc cT (cc cI cn))
def alv:Bs:=xI (xc (cc lC cn) (xc (cc (cf 212 cn cn) cn) (xc (cc (cf 213 cn cn) cn) xn)))
def Ln:Cs:=cc cI (cc (cp 0) cn)
def Uw:Bs:=xT xn
def adV:Cs:=cc (cg (cc (cf 209 cn (cc (cp 0) (cc (cp 1) (cc (cp 2) cn)))) (cc (cf 209 cn (cc (cp 0) (cc (cp 1) (cc (cp 3) cn)))) cn))) (cc lT (cc cI (cc (cf 217 cn (cc (cp 4) cn)) cn)))
def alw:Bs:=xI (xc (cc lC cn) (xc (cc (cf 212 cn cn) cn) (xc (cc (cf 213 cn cn) cn) (xI xn))))
def adW:Cs:=cc (cg (cc (cf 209 cn (cc (cp 0) (cc (cp 1) (cc (cp 2) cn)))) (cc (cf 209 cn (cc (cp 0) (cc (cp 1) (cc (cp 3) cn)))) cn))) (cc lT (cc cI (cc (cf 216 cn (cc (cp 4) cn)) cn)))
def aJs:Bs:=xI (xc (cc lC cn) (xc (cc (cf 212 cn cn) cn) (xc (cc (cf 213 cn cn) cn) (xT xn))))
def Lp:Cs:=cc lC (cc cI (cc (cp 0) cn))
def adX:Cs:=cc (cg (cc (cf 218 cn (cc (cp 0) cn)) (cc (cf 218 cn (cc (cp 0) cn)) cn))) (cc cT (cc cI cn))
def aBw:Cs:=cc (cg (cc (cf 218 cn (cc (cp 0) cn)) (cc (cf 218 cn (cc (cp 0) cn)) cn))) (cc lT (cc cI (cc (cf 217 cn (cc (cp 1) cn)) cn)))
def Lq:Cs:=cc (cg (cc (cf 218 cn (cc (cp 0) cn)) (cc (cf 218 cn (cc (cp 0) cn)) cn))) (cc lT (cc cI (cc (cf 216 cn (cc (cp 1) cn)) cn)))
def aJt:Bs:=xI (xT xn)
def Lr:Cs:=cc (cp 0) (cc cT (cc lC cn))
def Ls:Cs:=cc (cp 0) (cc cT cn)
def adY:Cs:=cc cI (cc lC (cc lT cn))
def adZ:Cs:=cc lD (cc cT cn)
def Lt:Cs:=cc (cp 0) (cc cI cn)
def ad0:Cs:=cc (cp 0) (cc cT (cc cI (cc cI cn)))
def Lu:Cs:=cc (cp 0) (cc lC cn)
def ayT:Bs:=xI (xT (xI xn))
def ad2:Cs:=cc cT (cc lI (cc (cf 147 cn (cc (cp 0) (cc (cp 1) (cc (cp 2) cn)))) cn))
def aBy:Cs:=cc cT (cc cT (cc lB cn))
def ad4:Cs:=cc (cp 0) (cc cT (cc cT (cc lB cn)))
def ad5:Cs:=cc cT (cc lI (cc (cf 145 cn (cc (cp 0) (cc (cp 1) (cc (cp 2) cn)))) cn))
def ad6:Cs:=cc cT (cc cI (cc cT (cc (cp 0) (cc (cp 1) (cc (cp 2) cn)))))
def aJv:Bs:=xT (xI (xc (cc (cp 3) cn) (xI xn)))
def Lv:Cs:=cc lC (cc lT cn)
def ad8:Cs:=cc (cp 0) (cc lC (cc lC cn))
def ad9:Cs:=cc cT (cc lC (cc cT (cc cC (cc lC cn))))
def ad_:Cs:=cc cT (cc lC (cc cT cn))
def aea:Cs:=cc (cp 0) (cc cT (cc lC (cc cT cn)))
def awe:Bs:=xc (cc cI (cc lC (cc cI (cc cI (cc cs (cc lC (cc lT (cc lB cn)))))))) xn
def adv:Cs:=cc cI (cc cC (cc (cp 0) (cc (cp 1) (cc (cp 2) cn))))
def aJl:Bs:=xc (cc (cp 3) cn) (xT (xT (xc (cc cI (cc lC (cc cI (cc cI (cc cs (cc lC (cc lT (cc lB cn)))))))) xn)))
def adx:Cs:=cc (cp 0) (cc lC (cc cI cn))
def ady:Cs:=cc cI (cc lB (cc lT cn))
def adz:Cs:=cc lB (cc (cf 171 cn cn) cn)
def gi:Cs:=cc cT (cc lB cn)
def aGj:Cs:=cc lC (cc (cf 223 cn (cc (cp 0) cn)) cn)
def cZ:Cs:=cc (cp 0) (cc (cp 1) cn)
def aAw:Bs:=xc (cc (cp 2) cn) (xT (xc (cc cI (cc lC (cc cI (cc cI (cc cs (cc lC (cc lT (cc lB (cc lB (cc cI (cc cI (cc cs (cc lC (cc lT (cc lB (cc cI (cc cI (cc cs (cc lC (cc lT (cc lB cn))))))))))))))))))))) xn))
def aGk:Cs:=cc (cp 0) (cc (cf 162 cn (cc (cp 1) (cc (cp 2) cn))) cn)
def aJm:Bs:=xc (cc cI (cc lC (cc cI (cc cI (cc cs (cc lC (cc lT (cc lB (cc lB (cc cI (cc cI (cc cs (cc lC (cc lT (cc lB (cc cI (cc cI (cc cs (cc lC (cc lT (cc lB cn))))))))))))))))))))) (xc (cc (cp 0) cn) (xT xn))
def aBm:Cs:=cc cB (cc (cp 0) cn)
def awf:Bs:=xc (cc (cp 1) cn) (xc (cc cI (cc lC (cc cI (cc cI (cc cs (cc lC (cc lT (cc lB (cc lB (cc cI (cc cI (cc cs (cc lC (cc lT (cc lB (cc cI (cc cI (cc cs (cc lC (cc lT (cc lB cn))))))))))))))))))))) xn)
def aGl:Cs:=cc lB (cc (cf 163 cn (cc (cp 0) cn)) cn)
def aJn:Bs:=xc (cc cI (cc lC (cc cI (cc cI (cc cs (cc lC (cc lT (cc lB (cc nB (cc cI (cc cI (cc cs (cc lC (cc lT (cc lB (cc cI (cc cI (cc cs (cc lC (cc lT (cc lB cn))))))))))))))))))))) xn
def aBn:Cs:=cc (cp 0) (cc cT (cc cT (cc cT (cc cT cn))))
def aGm:Cs:=cc cT (cc cT (cc cT (cc cT cn)))
def ayP:Bs:=xc (cc (cf 164 cn (cc (cp 1) (cc (cp 2) cn))) cn) (xc (cc (cp 3) cn) (xT (xc (cc cI (cc lC (cc cI (cc cI (cc cs (cc lC (cc lT (cc lB (cc lB (cc cI (cc cI (cc cs (cc lC (cc lT (cc lB (cc cI (cc cI (cc cs (cc lC (cc lT (cc lB cn))))))))))))))))))))) xn)))
def aGn:Cs:=cc (cp 0) (cc (cf 166 cn (cc (cp 1) (cc (cp 2) cn))) cn)
def aJo:Bs:=xc (cc cI (cc lC (cc cI (cc cI (cc cs (cc lC (cc lT (cc lB (cc lB (cc cI (cc cI (cc cs (cc lC (cc lT (cc lB (cc cI (cc cI (cc cs (cc lC (cc lT (cc lB cn))))))))))))))))))))) (xc (cc (cf 164 cn (cc (cp 2) (cc (cp 3) cn))) cn) (xc (cc (cp 0) cn) (xT xn)))
def azp:Cs:=cc cB (cc (cp 0) (cc (cp 1) cn))
def aGo:Cs:=cc lB (cc (cf 167 cn (cc (cp 0) (cc (cp 1) cn))) cn)
def aJp:Bs:=xc (cc cI (cc lC (cc cI (cc cI (cc cs (cc lC (cc lT (cc lB (cc lB (cc cI (cc cI (cc cs (cc lC (cc lT (cc lB (cc cI (cc cI (cc cs (cc lC (cc lT (cc lB cn))))))))))))))))))))) xn
def aGp:Cs:=cc lB (cc (cf 105 cn (cc (cp 0) cn)) cn)
def aGq:Cs:=cc (cp 0) (cc (cf 108 cn (cc (cp 1) cn)) cn)
def aJq:Bs:=xc (cc cI (cc lC (cc cI (cc cI (cc cs (cc lC (cc lT (cc lB (cc lB (cc cI (cc cI (cc cs (cc lC (cc lT (cc lB (cc cI (cc cI (cc cs (cc lC (cc lT (cc lB cn))))))))))))))))))))) (xc (cc (cp 0) cn) xn)
def azq:Cs:=cc cT (cc (cp 0) cn)
def aAx:Bs:=xc (cc (cp 1) cn) (xc (cc cI (cc cI (cc cI (cc cs (cc lC (cc lT (cc lB (cc lB cn)))))))) xn)
def aBo:Cs:=cc (cp 0) (cc (cf 111 cn (cc (cp 1) cn)) cn)
def ayQ:Bs:=xc (cc cI (cc cI (cc cI (cc cs (cc lC (cc lT (cc lB (cc lB cn)))))))) (xc (cc (cp 0) cn) xn)
def ayR:Bs:=xc (cc cI (cc cI (cc cI (cc cs (cc lC (cc lT (cc lB (cc lB cn)))))))) xn
def aBp:Cs:=cc (cp 0) (cc (cf 113 cn (cc (cp 1) cn)) cn)
def aDw:Bs:=xc (cc cI (cc cI (cc cI (cc cs (cc lC (cc lT (cc lB (cc lB cn)))))))) (xI xn)
def azr:Cs:=cc cT (cc cT cn)
def aBq:Cs:=cc (cp 0) (cc (cf 114 cn (cc (cp 1) cn)) cn)
def aDx:Bs:=xc (cc (cp 2) cn) (xc (cc lB cn) (xI xn))
def aGr:Cs:=cc lB (cc (cf 119 cn (cc (cp 0) (cc (cp 1) cn))) cn)
def aGs:Cs:=cc cB (cc (cp 0) (cc (cp 1) (cc (cp 2) cn)))
def aAy:Bs:=xc (cc (cp 3) cn) (xT (xT (xI xn)))
def aBr:Cs:=cc lB (cc (cf 121 cn (cc (cp 0) (cc (cp 1) (cc (cp 2) cn)))) cn)
def aAz:Bs:=xT (xT xn)
def aBs:Cs:=cc lB (cc (cf 122 cn (cc (cp 0) (cc (cp 1) cn))) cn)
def aAA:Bs:=xc (cc lD (cc cI cn)) xn
def aGt:Cs:=cc lT (cc lT (cc (cf 76 cn cn) cn))
def aGu:Cs:=cc cB (cc cB cn)
def aGv:Cs:=cc lB (cc lB (cc (cf 134 cn cn) cn))
def aGw:Cs:=cc lD (cc cT (cc cI cn))
def aBt:Cs:=cc lG cn
def aGx:Cs:=cc lT (cc lT cn)
def aGy:Cs:=cc lG (cc cT (cc cI (cc cI cn)))
def aE (κ:Out UU->Option S):Int×Int×ByteArray×List Tm->Option S:=fun r=>κ (.ret (.agg [(iI r.1),(iI r.2.1),(.str r.2.2.1),(bZ [] .nil),(sT r.2.2.2),(dN [] .nil)]) [])
def aA (κ:Out UU->Option S):Int×Int->Option S:=fun r=>κ (.ret (.tuple [(iI r.1),(iI r.2)]) [])
def F9 (κ:Out UU->Option S):Bool->Option S:=fun r=>κ (.ret (.bool r) [])
def kT (c0:Int) (κ:Out UU->Option S):Bool->Option S:=fun r=>κ (.ret (.bool r) [bI c0])
def eJ (κ:Out UU->Option S):Bool×Int->Option S:=fun r=>κ (.ret (.bool r.1) [.cells [(.func 124 [] [(pt 1),(pt 0)])],bI r.2])
def gf (κ:Out UU->Option S):Bool×Int->Option S:=fun r=>κ (.ret (.bool r.1) [bI r.2,.cells [(.func 124 [] [(pt 0),(pt 1)])]])
def da (κ:Out UU->Option S):Int->Option S:=fun r=>κ (.ret (iI r) [])
def Oa (κ:Out UU->Option S):Cl->Option S:=fun r=>κ (.ret (aC r) [])
def Oc (c0:Cl) (κ:Out UU->Option S):Bool->Option S:=fun r=>κ (.ret (.bool r) [bC c0])
def A1 (c0:Cl) (κ:Out UU->Option S):Int->Option S:=fun r=>κ (.ret (iI r) [bC c0])
def ahX (c0:List Cl) (κ:Out UU->Option S):Bool->Option S:=fun r=>κ (.ret (.bool r) [.cells [(sC c0)]])
def aq1 (κ:Out UU->Option S):List Cl×Int->Option S:=fun r=>κ (.ret (.tuple [(sC r.1),(iI r.2)]) [])
def b_ (κ:Out UU->Option S):Int->Option S:=fun r=>κ (.ret (iU r) [])
def gc (c0 c1:Int) (c2:Bool) (κ:Out UU->Option S):Bool->Option S:=fun r=>κ (.ret (.bool r) [bI c0,bI c1,.cells [(.bool c2)]])
def aF (κ:Out UU->Option S):Tm->Option S:=fun r=>κ (.ret (aT r) [])
def AN (κ:Out UU->Option S):List Tm->Option S:=fun r=>κ (.ret (sT r) [])
def N7 (κ:Out UU->Option S):Bool×Int->Option S:=fun r=>κ (.ret (.bool r.1) [bI r.2])
def ahY (κ:Out UU->Option S):List Cl->Option S:=fun r=>κ (.ret (Ev r) [])
def AO (κ:Out UU->Option S):Int×Int->Option S:=fun r=>κ (.ret (.tuple [(iU r.1),(iI r.2)]) [])
def ahZ (κ:Out UU->Option S):Cl×Int->Option S:=fun r=>κ (.ret (.tuple [(aC r.1),(iI r.2)]) [])
def vA (c0 c1:Int) (κ:Out UU->Option S):List Cl×Int->Option S:=fun r=>κ (.ret (.tuple [(Ev r.1),(iI r.2)]) [bI c0,bI c1])
def N8 (c0 c1:Int) (κ:Out UU->Option S):List Cl×Int->Option S:=fun r=>κ (.ret (.tuple [(sC r.1),(iI r.2)]) [bI c0,bI c1])
def ah0 (κ:Out UU->Option S):Pan Int (List Cl)->Option S:=fun r=>Pan.elim r (fun r=>κ (.ret (sC r) [])) (fun e=>κ (.panic (.iface 34 (iI e)) []))
def AP (κ:Out UU->Option S):Pan Int Tm->Option S:=fun r=>Pan.elim r (fun r=>κ (.ret (aT r) [])) (fun e=>κ (.panic (.iface 34 (iI e)) []))
def ah1 (c0 c1:Int) (c2:Tm) (κ:Out UU->Option S):Pan Int Tm->Option S:=fun r=>Pan.elim r (fun r=>κ (.ret (aT r) [bI c0,bI c1,bT c2])) (fun e=>κ (.panic (.iface 34 (iI e)) [bI c0,bI c1,bT c2]))
def ah (c0 c1:Int) (c2:Tm) (κ:Out UU->Option S):Tm×Int->Option S:=fun r=>κ (.ret (.tuple [(aT r.1),(iI r.2)]) [bI c0,bI c1,bT c2])
def ah2 (κ:Out UU->Option S):Tm×Int->Option S:=fun r=>κ (.ret (.tuple [(aT r.1),(iI r.2)]) [])
def AQ (κ:Out UU->Option S):Tm×Int->Option S:=fun r=>κ (.ret (aT r.1) [bI r.2])
def cM (κ:Out UU->Option S):List Cl->Option S:=fun r=>κ (.ret (sC r) [])
def gR (c0:Int) (c1:List Cl) (κ:Out UU->Option S):Unit->Option S:=fun r=>κ (.ret (.func 209 [] [(pt 0),(pt 1),(pt 2)]) [bI c0,.cells [(sC c1)],.cells [(.func 212 [] [])]])
def ah3 (c0:Int) (c1:List Cl) (κ:Out UU->Option S):Unit->Option S:=fun r=>κ (.ret (.func 209 [] [(pt 0),(pt 1),(pt 2)]) [bI c0,.cells [(sC c1)],.cells [(.func 213 [] [])]])
def N9 (κ:Out UU->Option S):Int×List Cl->Option S:=fun r=>κ (.ret (.agg [(.func 209 [] [(pt 0),(pt 1),(pt 2)]),(.func 209 [] [(pt 0),(pt 1),(pt 3)])]) [bI r.1,.cells [(sC r.2)],.cells [(.func 212 [] [])],.cells [(.func 213 [] [])]])
def N_ (κ:Out UU->Option S):Cl×Bool->Option S:=fun r=>κ (.ret (.tuple [(aC r.1),(.bool r.2)]) [])
def mt (c0:Cl) (κ:Out UU->Option S):Cl×Bool->Option S:=fun r=>κ (.ret (.tuple [(aC r.1),(.bool r.2)]) [bC c0])
def ah4 (c0:Cl) (κ:Out UU->Option S):List Cl->Option S:=fun r=>κ (.ret (sC r) [bC c0])
def ah5 (c0:Int) (c1:List Cl) (κ:Out UU->Option S):List Cl×Int->Option S:=fun r=>κ (.ret (.tuple [(sC r.1),(iI r.2)]) [bI c0,.cells [(sC c1)],.cells [(.func 213 [] [])]])
def ah6 (c0:Int) (c1:List Cl) (κ:Out UU->Option S):List Cl×Int->Option S:=fun r=>κ (.ret (.tuple [(sC r.1),(iI r.2)]) [bI c0,.cells [(sC c1)]])
def aHm (c0:Int) (c1:List Cl) (κ:Out UU->Option S):List Cl×Int->Option S:=fun r=>κ (.ret (.tuple [(sC r.1),(iI r.2)]) [bI c0,.cells [(sC c1)],.cells [(.func 212 [] [])]])
def ah7 (c0:Int) (c1:List Cl) (κ:Out UU->Option S):List Cl×Int->Option S:=fun r=>κ (.ret (.tuple [(sC r.1),(iI r.2)]) [bI c0,.cells [(sC c1)],.cells [(.func 212 [] [])],.cells [(.func 213 [] [])]])
def ah8 (c0:Tm) (κ:Out UU->Option S):Int->Option S:=fun r=>κ (.ret (iI r) [bT c0])
def AR (c0:Int) (κ:Out UU->Option S):Int->Option S:=fun r=>κ (.ret (iI r) [bI c0])
def ah9 (c0:Int) (c1:List Cl) (κ:Out UU->Option S):Tm×Int->Option S:=fun r=>κ (.ret (.tuple [(aT r.1),(iI r.2)]) [bI c0,.cells [(sC c1)],.cells [(.func 212 [] [])],.cells [(.func 213 [] [])]])
def vB (c0:Int) (c1:List Cl) (c4:Int) (κ:Out UU->Option S):List Tm×Int->Option S:=fun r=>κ (.ret (.tuple [(sT r.1),(iI r.2)]) [bI c0,.cells [(sC c1)],.cells [(.func 212 [] [])],.cells [(.func 213 [] [])],bI c4])
def ah_ (c0:Int) (c1:List Cl) (c4:Tm) (κ:Out UU->Option S):List Tm×Int->Option S:=fun r=>κ (.ret (.tuple [(sT r.1),(iI r.2)]) [bI c0,.cells [(sC c1)],.cells [(.func 212 [] [])],.cells [(.func 213 [] [])],bT c4])
def aia (κ:Out UU->Option S):Int->Option S:=fun r=>κ (.ret (.agg [(.func 218 [] [(pt 0)]),(.func 218 [] [(pt 0)])]) [bI r])
def aib (c0:Int) (κ:Out UU->Option S):List Cl×Int->Option S:=fun r=>κ (.ret (.tuple [(sC r.1),(iI r.2)]) [bI c0])
def aic (c0:Int) (κ:Out UU->Option S):Tm×Int->Option S:=fun r=>κ (.ret (.tuple [(aT r.1),(iI r.2)]) [bI c0])
def AT (c0 c1:Int) (κ:Out UU->Option S):List Tm×Int->Option S:=fun r=>κ (.ret (.tuple [(sT r.1),(iI r.2)]) [bI c0,bI c1])
def AU (c0:Int) (c1:Tm) (κ:Out UU->Option S):List Tm×Int->Option S:=fun r=>κ (.ret (.tuple [(sT r.1),(iI r.2)]) [bI c0,bT c1])
def AV (κ:Out UU->Option S):Tm×Bool×Int->Option S:=fun r=>κ (.ret (.tuple [(aT r.1),(.bool r.2.1)]) [bI r.2.2])
def aid (κ:Out UU->Option S):Tm×Bool->Option S:=fun r=>κ (.ret (.tuple [(aT r.1),(.bool r.2)]) [])
def vC (κ:Out UU->Option S):Int×Int×ByteArray×List Cl×List Tm->Option S:=fun r=>κ (.ret (.agg [(iI r.1),(iI r.2.1),(.str r.2.2.1),(sC r.2.2.2.1),(sT r.2.2.2.2),(dN [] .nil)]) [])
def AW (κ:Out UU->Option S):Tm×Bool×Int×Int->Option S:=fun r=>κ (.ret (.tuple [(aT r.1),(.bool r.2.1),(iI r.2.2.1)]) [bI r.2.2.2])
def AX (κ:Out UU->Option S):Tm×Bool×Int->Option S:=fun r=>κ (.ret (.tuple [(aT r.1),(.bool r.2.1),(iI r.2.2)]) [])
def AY (κ:Out UU->Option S):Int×Int×ByteArray×List Tm×List (Br Tm)->Option S:=fun r=>κ (.ret (.agg [(iI r.1),(iI r.2.1),(.str r.2.2.1),(bZ [] .nil),(dO r.2.2.2.1 .full),(sB r.2.2.2.2)]) [])
def cO (κ:Out UU->Option S):Int->Option S:=fun r=>κ (.ret (.tuple []) [bI r])
def AZ (κ:Out UU->Option S):Int->Option S:=fun r=>κ (.ret (pt 0) [bI r])
def aie (κ:Out UU->Option S):Tm×Int×Int->Option S:=fun r=>κ (.ret (.tuple [(aT r.1),(iI r.2.1)]) [bI r.2.2])
def aif (κ:Out UU->Option S):List Cl×Int->Option S:=fun r=>κ (.ret (sC r.1) [bI r.2])
def aCG (c0:Int) (c1:Tm) (c2:Int) (κ:Out UU->Option S):Pan Int Tm->Option S:=fun r=>Pan.elim r (fun r=>κ (.ret (aT r) [bI c0,bT c1,bI c2])) (fun e=>κ (.panic (.iface 34 (iI e)) [bI c0,bT c1,bI c2]))
def aih (c0:Int) (c1:Tm) (c2:Int) (κ:Out UU->Option S):Tm×Int->Option S:=fun r=>κ (.ret (.tuple [(aT r.1),(iI r.2)]) [bI c0,bT c1,bI c2])
def A0 (c0:Tm) (c1:Int) (κ:Out UU->Option S):Int×Int×ByteArray×List Tm×Int->Option S:=fun r=>κ (.ret (.agg [(iI r.1),(iI r.2.1),(.str r.2.2.1),(bZ [] .nil),(sT r.2.2.2.1),(dN [] .nil)]) [bT c0,bI c1,.cells [(pt 3)],bI r.2.2.2.2])
def aii (κ:Out UU->Option S):(Br Tm)->Option S:=fun r=>κ (.ret (aB r) [])
def aCH (κ:Out UU->Option S):Int×Int×ByteArray->Option S:=fun r=>κ (.ret (.agg [(iI r.1),(iI r.2.1),(.str r.2.2),(bZ [] .nil),(dO [] .nil),(dN [] .nil)]) [])
def aM (alJ:Int) (c0_1:List Cl) (sx wl:Int) (aas:ByteArray) (abq:List Cl) (abZ:List Tm) (c0_7:List (Br Tm)) (κ:Out UU->Option S):Int×Int×ByteArray×List Cl×List Tm->Option S:=fun r=>κ (.ret (.agg [(iI r.1),(iI r.2.1),(.str r.2.2.1),(sC r.2.2.2.1),(sT r.2.2.2.2),(dN [] .nil)]) [.cells [(iI alJ),(sC c0_1),(iI sx),(iI wl),(.str aas),(sC abq),(sT abZ),(sB c0_7)]])
def azN (c0_1:List Cl) (sx wl:Int) (aas:ByteArray) (abq:List Cl) (abZ:List Tm) (c0_7:List (Br Tm)) (κ:Out UU->Option S):Int×Int×ByteArray×List Tm×Int->Option S:=fun r=>κ (.ret (.agg [(iI r.1),(iI r.2.1),(.str r.2.2.1),(bZ [] .nil),(sT r.2.2.2.1),(dN [] .nil)]) [.cells [(iI r.2.2.2.2),(sC c0_1),(iI sx),(iI wl),(.str aas),(sC abq),(sT abZ),(sB c0_7)]])
def aHn (c0_1:List Cl) (sx wl:Int) (aas:ByteArray) (abq:List Cl) (abZ:List Tm) (c0_7:List (Br Tm)) (κ:Out UU->Option S):Tm×Int->Option S:=fun r=>κ (.ret (aT r.1) [.cells [(iI r.2),(sC c0_1),(iI sx),(iI wl),(.str aas),(sC abq),(sT abZ),(sB c0_7)]])
def aHo (c1 c2:Tm) (aqT:List Cl) (aqM aqN:Int) (aqO:ByteArray) (aqP:List Cl) (aqQ:List Tm) (aqR:List (Br Tm)) (κ:Out UU->Option S):Int×Int×ByteArray×List Cl×List Tm×Int->Option S:=fun r=>κ (.ret (.agg [(iI r.1),(iI r.2.1),(.str r.2.2.1),(sC r.2.2.2.1),(sT r.2.2.2.2.1),(dN [] .nil)]) [.cells [(pt 3)],bT c1,bT c2,.cells [(iI r.2.2.2.2.2),(sC aqT),(iI aqM),(iI aqN),(.str aqO),(sC aqP),(sT aqQ),(sB aqR)]])
def aCI (κ:Out UU->Option S):Int×Int×ByteArray×List Tm×List (Br Tm)->Option S:=fun r=>κ (.ret (.agg [(iI r.1),(iI r.2.1),(.str r.2.2.1),(bZ [] .nil),(sT r.2.2.2.1),(sB r.2.2.2.2)]) [])
def ayt (κ:Out UU->Option S):List (Br Tm)->Option S:=fun r=>κ (.ret (frB r) [])
def aCJ (κ:Out UU->Option S):List (Br Tm)->Option S:=fun r=>κ (.ret (sB r) [])
def aHp (c0:Int) (κ:Out UU->Option S):Cl×Bool->Option S:=fun r=>κ (.ret (.tuple [(aC r.1),(.bool r.2)]) [bI c0])
def ayu (c0:Int) (κ:Out UU->Option S):List Cl->Option S:=fun r=>κ (.ret (sC r) [bI c0])
def aCK (c1:Tm) (h:List Cl) (j q:Int) (x:ByteArray) (z:List Cl) (A:List Tm) (B E:List (Br Tm)) (F I:Int) (J:ByteArray) (L:List Cl) (M:List Tm) (O:List (Br Tm)) (T W:Int) (Y:ByteArray) (ad:List Cl) (ao:List Tm) (ax:List (Br Tm)) (κ:Out UU->Option S):Tm×Int->Option S:=fun r=>κ (.ret (aT r.1) [.cells [(pt 2)],bT c1,.cells [(iI r.2),(sC h),(iI j),(iI q),(.str x),(sC z),(sT A),(sB B),(sB E),(iI F),(iI I),(.str J),(sC L),(sT M),(sB O),(iI T),(iI W),(.str Y),(sC ad),(sT ao),(sB ax)]])
def aHq (κ:Out UU->Option S):Tm×Int->Option S:=fun r=>κ (.ret (aT r.1) [.cells [.int .i64 2,(iI r.2)]])
def aHr (c0_1:List Cl) (sx wl:Int) (aas:ByteArray) (abq:List Cl) (abZ:List Tm) (c0_7 h:List (Br Tm)) (aqZ aqU:Int) (aqV:ByteArray) (aqW:List Cl) (aqX:List Tm) (aqY:List (Br Tm)) (aqG aqH:Int) (aqI:ByteArray) (aqJ:List Cl) (aqK:List Tm) (aqL:List (Br Tm)) (c2:Tm) (κ:Out UU->Option S):List (Br Tm)×Int->Option S:=fun r=>κ (.ret (dN r.1 .full) [.cells [(iI r.2),(sC c0_1),(iI sx),(iI wl),(.str aas),(sC abq),(sT abZ),(sB c0_7),(sB h),(iI aqZ),(iI aqU),(.str aqV),(sC aqW),(sT aqX),(sB aqY),(iI aqG),(iI aqH),(.str aqI),(sC aqJ),(sT aqK),(sB aqL)],.cells [(pt 0)],bT c2])
def aHs (aph:List Cl) (api apl:Int) (apm:ByteArray) (apn:List Cl) (apr:List Tm) (aps aqC:List (Br Tm)) (aqi apG:Int) (apH:ByteArray) (apI:List Cl) (apJ:List Tm) (ap3:List (Br Tm)) (aqr aqx:Int) (aqy:ByteArray) (aqz:List Cl) (aqA:List Tm) (aqB:List (Br Tm)) (κ:Out UU->Option S):(Br Tm)×Int->Option S:=fun r=>κ (.ret (aB r.1) [.cells [(pt 1)],.cells [(iI r.2),(sC aph),(iI api),(iI apl),(.str apm),(sC apn),(sT apr),(sB aps),(sB aqC),(iI aqi),(iI apG),(.str apH),(sC apI),(sT apJ),(sB ap3),(iI aqr),(iI aqx),(.str aqy),(sC aqz),(sT aqA),(sB aqB)]])
def ayv (aph:List Cl) (api apl:Int) (apm:ByteArray) (apn:List Cl) (apr:List Tm) (aps aqC:List (Br Tm)) (aqi apG:Int) (apH:ByteArray) (apI:List Cl) (apJ:List Tm) (ap3:List (Br Tm)) (aqr aqx:Int) (aqy:ByteArray) (aqz:List Cl) (aqA:List Tm) (aqB:List (Br Tm)) (κ:Out UU->Option S):List (Br Tm)×Int->Option S:=fun r=>κ (.ret (frB r.1) [.cells [(pt 1)],.cells [(iI r.2),(sC aph),(iI api),(iI apl),(.str apm),(sC apn),(sT apr),(sB aps),(sB aqC),(iI aqi),(iI apG),(.str apH),(sC apI),(sT apJ),(sB ap3),(iI aqr),(iI aqx),(.str aqy),(sC aqz),(sT aqA),(sB aqB)]])
def ayw (c0_1:List Cl) (sx wl:Int) (aas:ByteArray) (abq:List Cl) (abZ:List Tm) (c0_7:List (Br Tm)) (aqG aqH:Int) (aqI:ByteArray) (aqJ:List Cl) (aqK:List Tm) (aqL:List (Br Tm)) (κ:Out UU->Option S):Int×List (Br Tm)×Int×Int×ByteArray×List Cl×List Tm×List (Br Tm)->Option S:=fun r=>κ (.ret (.tuple []) [.cells [(iI r.1),(sC c0_1),(iI sx),(iI wl),(.str aas),(sC abq),(sT abZ),(sB c0_7),(sB r.2.1),(iI r.2.2.1),(iI r.2.2.2.1),(.str r.2.2.2.2.1),(sC r.2.2.2.2.2.1),(sT r.2.2.2.2.2.2.1),(sB r.2.2.2.2.2.2.2),(iI aqG),(iI aqH),(.str aqI),(sC aqJ),(sT aqK),(sB aqL)]])
def aCL (κ:Out UU->Option S):Int×Int×ByteArray×List Tm×Int->Option S:=fun r=>κ (.ret (.agg [(iI r.1),(iI r.2.1),(.str r.2.2.1),(bZ [] .nil),(sT r.2.2.2.1),(dN [] .nil)]) [bI r.2.2.2.2])
def aHt (c1:Tm) (h:List Cl) (j q:Int) (x:ByteArray) (z:List Cl) (A:List Tm) (B E:List (Br Tm)) (F I:Int) (J:ByteArray) (L:List Cl) (M:List Tm) (O:List (Br Tm)) (T W:Int) (Y:ByteArray) (ad:List Cl) (ao:List Tm) (ax:List (Br Tm)) (κ:Out UU->Option S):Int×Int×ByteArray×List Cl×List Tm×Int->Option S:=fun r=>κ (.ret (.agg [(iI r.1),(iI r.2.1),(.str r.2.2.1),(sC r.2.2.2.1),(sT r.2.2.2.2.1),(dN [] .nil)]) [.cells [(pt 2)],bT c1,.cells [(iI r.2.2.2.2.2),(sC h),(iI j),(iI q),(.str x),(sC z),(sT A),(sB B),(sB E),(iI F),(iI I),(.str J),(sC L),(sT M),(sB O),(iI T),(iI W),(.str Y),(sC ad),(sT ao),(sB ax)]])
def aCM (c2:Tm) (aqT:List Cl) (aqM aqN:Int) (aqO:ByteArray) (aqP:List Cl) (aqQ:List Tm) (aqR arh:List (Br Tm)) (ari aq7:Int) (aq8:ByteArray) (aq9:List Cl) (aq_:List Tm) (ara:List (Br Tm)) (arb arc:Int) (ard:ByteArray) (are:List Cl) (arf:List Tm) (arg:List (Br Tm)) (κ:Out UU->Option S):Int×Int×ByteArray×List Cl×List Tm×Int->Option S:=fun r=>κ (.ret (.agg [(iI r.1),(iI r.2.1),(.str r.2.2.1),(sC r.2.2.2.1),(sT r.2.2.2.2.1),(dN [] .nil)]) [.cells [(.func 164 [] [(pt 1),(pt 2)])],.cells [(pt 3)],bT c2,.cells [(iI r.2.2.2.2.2),(sC aqT),(iI aqM),(iI aqN),(.str aqO),(sC aqP),(sT aqQ),(sB aqR),(sB arh),(iI ari),(iI aq7),(.str aq8),(sC aq9),(sT aq_),(sB ara),(iI arb),(iI arc),(.str ard),(sC are),(sT arf),(sB arg)]])
def aHu (κ:Out UU->Option S):Int×Int×ByteArray×List Cl×List Tm×Int->Option S:=fun r=>κ (.ret (.agg [(iI r.1),(iI r.2.1),(.str r.2.2.1),(sC r.2.2.2.1),(sT r.2.2.2.2.1),(dN [] .nil)]) [.cells [.int .i64 3,(iI r.2.2.2.2.2)]])
def aHv (c0_1:List Cl) (sx wl:Int) (aas:ByteArray) (abq:List Cl) (abZ:List Tm) (c0_7 h:List (Br Tm)) (aqZ aqU:Int) (aqV:ByteArray) (aqW:List Cl) (aqX:List Tm) (aqY:List (Br Tm)) (aqG aqH:Int) (aqI:ByteArray) (aqJ:List Cl) (aqK:List Tm) (aqL:List (Br Tm)) (c3:Tm) (κ:Out UU->Option S):List (Br Tm)×Int->Option S:=fun r=>κ (.ret (dN r.1 .full) [.cells [(iI r.2),(sC c0_1),(iI sx),(iI wl),(.str aas),(sC abq),(sT abZ),(sB c0_7),(sB h),(iI aqZ),(iI aqU),(.str aqV),(sC aqW),(sT aqX),(sB aqY),(iI aqG),(iI aqH),(.str aqI),(sC aqJ),(sT aqK),(sB aqL)],.cells [(.func 164 [] [(pt 2),(pt 3)])],.cells [(pt 0)],bT c3])
def aHw (c2:Tm) (aqT:List Cl) (aqM aqN:Int) (aqO:ByteArray) (aqP:List Cl) (aqQ:List Tm) (aqR arh:List (Br Tm)) (ari aq7:Int) (aq8:ByteArray) (aq9:List Cl) (aq_:List Tm) (ara:List (Br Tm)) (arb arc:Int) (ard:ByteArray) (are:List Cl) (arf:List Tm) (arg:List (Br Tm)) (κ:Out UU->Option S):(Br Tm)×Int->Option S:=fun r=>κ (.ret (aB r.1) [.cells [(.func 164 [] [(pt 1),(pt 2)])],.cells [(pt 3)],bT c2,.cells [(iI r.2),(sC aqT),(iI aqM),(iI aqN),(.str aqO),(sC aqP),(sT aqQ),(sB aqR),(sB arh),(iI ari),(iI aq7),(.str aq8),(sC aq9),(sT aq_),(sB ara),(iI arb),(iI arc),(.str ard),(sC are),(sT arf),(sB arg)]])
def ayx (c2:Tm) (aqT:List Cl) (aqM aqN:Int) (aqO:ByteArray) (aqP:List Cl) (aqQ:List Tm) (aqR arh:List (Br Tm)) (ari aq7:Int) (aq8:ByteArray) (aq9:List Cl) (aq_:List Tm) (ara:List (Br Tm)) (arb arc:Int) (ard:ByteArray) (are:List Cl) (arf:List Tm) (arg:List (Br Tm)) (κ:Out UU->Option S):List (Br Tm)×Int->Option S:=fun r=>κ (.ret (frB r.1) [.cells [(.func 164 [] [(pt 1),(pt 2)])],.cells [(pt 3)],bT c2,.cells [(iI r.2),(sC aqT),(iI aqM),(iI aqN),(.str aqO),(sC aqP),(sT aqQ),(sB aqR),(sB arh),(iI ari),(iI aq7),(.str aq8),(sC aq9),(sT aq_),(sB ara),(iI arb),(iI arc),(.str ard),(sC are),(sT arf),(sB arg)]])
def aHx (c0_1:List Cl) (sx wl:Int) (aas:ByteArray) (abq:List Cl) (abZ:List Tm) (c0_7 h:List (Br Tm)) (aqZ aqU:Int) (aqV:ByteArray) (aqW:List Cl) (aqX:List Tm) (aqY:List (Br Tm)) (aqG aqH:Int) (aqI:ByteArray) (aqJ:List Cl) (aqK:List Tm) (aqL:List (Br Tm)) (κ:Out UU->Option S):Int×Int×ByteArray×List Tm×List (Br Tm)×Int->Option S:=fun r=>κ (.ret (.agg [(iI r.1),(iI r.2.1),(.str r.2.2.1),(bZ [] .nil),(sT r.2.2.2.1),(sB r.2.2.2.2.1)]) [.cells [(iI r.2.2.2.2.2),(sC c0_1),(iI sx),(iI wl),(.str aas),(sC abq),(sT abZ),(sB c0_7),(sB h),(iI aqZ),(iI aqU),(.str aqV),(sC aqW),(sT aqX),(sB aqY),(iI aqG),(iI aqH),(.str aqI),(sC aqJ),(sT aqK),(sB aqL)]])
def aHy (aph:List Cl) (api apl:Int) (apm:ByteArray) (apn:List Cl) (apr:List Tm) (aps aqC:List (Br Tm)) (aqi apG:Int) (apH:ByteArray) (apI:List Cl) (apJ:List Tm) (ap3:List (Br Tm)) (aqr aqx:Int) (aqy:ByteArray) (aqz:List Cl) (aqA:List Tm) (aqB:List (Br Tm)) (κ:Out UU->Option S):Int×Int×ByteArray×List Tm×List (Br Tm)×Int->Option S:=fun r=>κ (.ret (.agg [(iI r.1),(iI r.2.1),(.str r.2.2.1),(bZ [] .nil),(sT r.2.2.2.1),(sB r.2.2.2.2.1)]) [.cells [(pt 1)],.cells [(iI r.2.2.2.2.2),(sC aph),(iI api),(iI apl),(.str apm),(sC apn),(sT apr),(sB aps),(sB aqC),(iI aqi),(iI apG),(.str apH),(sC apI),(sT apJ),(sB ap3),(iI aqr),(iI aqx),(.str aqy),(sC aqz),(sT aqA),(sB aqB)]])
def ayy (aph:List Cl) (api apl:Int) (apm:ByteArray) (apn:List Cl) (apr:List Tm) (aps aqC:List (Br Tm)) (aqi apG:Int) (apH:ByteArray) (apI:List Cl) (apJ:List Tm) (ap3:List (Br Tm)) (aqr aqx:Int) (aqy:ByteArray) (aqz:List Cl) (aqA:List Tm) (aqB:List (Br Tm)) (κ:Out UU->Option S):List Tm×Int->Option S:=fun r=>κ (.ret (frT r.1) [.cells [(pt 1)],.cells [(iI r.2),(sC aph),(iI api),(iI apl),(.str apm),(sC apn),(sT apr),(sB aps),(sB aqC),(iI aqi),(iI apG),(.str apH),(sC apI),(sT apJ),(sB ap3),(iI aqr),(iI aqx),(.str aqy),(sC aqz),(sT aqA),(sB aqB)]])
def aCN (aph:List Cl) (api apl:Int) (apm:ByteArray) (apn:List Cl) (apr:List Tm) (aps aqC:List (Br Tm)) (aqi apG:Int) (apH:ByteArray) (apI:List Cl) (apJ:List Tm) (ap3:List (Br Tm)) (aqr aqx:Int) (aqy:ByteArray) (aqz:List Cl) (aqA:List Tm) (aqB:List (Br Tm)) (κ:Out UU->Option S):Tm×Int->Option S:=fun r=>κ (.ret (aT r.1) [.cells [(pt 1)],.cells [(iI r.2),(sC aph),(iI api),(iI apl),(.str apm),(sC apn),(sT apr),(sB aps),(sB aqC),(iI aqi),(iI apG),(.str apH),(sC apI),(sT apJ),(sB ap3),(iI aqr),(iI aqx),(.str aqy),(sC aqz),(sT aqA),(sB aqB)]])
def aHz (κ:Out UU->Option S):Tm×Int->Option S:=fun r=>κ (.ret (aT r.1) [.cells [.int .i64 1,(iI r.2)]])
def aHA (c0_1:List Cl) (sx wl:Int) (aas:ByteArray) (abq:List Cl) (abZ:List Tm) (c0_7 h:List (Br Tm)) (aqZ aqU:Int) (aqV:ByteArray) (aqW:List Cl) (aqX:List Tm) (aqY:List (Br Tm)) (aqG aqH:Int) (aqI:ByteArray) (aqJ:List Cl) (aqK:List Tm) (aqL:List (Br Tm)) (κ:Out UU->Option S):List (Br Tm)×Int->Option S:=fun r=>κ (.ret (dN r.1 .full) [.cells [(iI r.2),(sC c0_1),(iI sx),(iI wl),(.str aas),(sC abq),(sT abZ),(sB c0_7),(sB h),(iI aqZ),(iI aqU),(.str aqV),(sC aqW),(sT aqX),(sB aqY),(iI aqG),(iI aqH),(.str aqI),(sC aqJ),(sT aqK),(sB aqL)],.cells [(pt 0)]])
def aCO (aph api:Int) (apl:ByteArray) (apm:List Cl) (apn:List Tm) (apr aps:List (Br Tm)) (κ:Out UU->Option S):List Tm×Int->Option S:=fun r=>κ (.ret (sT r.1) [.cells [(pt 1)],.cells [(iI r.2),(iI aph),(iI api),(.str apl),(sC apm),(sT apn),(sB apr),(sB aps)]])
def auh (c0_1 sx:Int) (wl:ByteArray) (aas:List Cl) (abq:List Tm) (abZ c0_7:List (Br Tm)) (κ:Out UU->Option S):List (Br Tm)×Int->Option S:=fun r=>κ (.ret (sB r.1) [.cells [(iI r.2),(iI c0_1),(iI sx),(.str wl),(sC aas),(sT abq),(sB abZ),(sB c0_7)],.cells [(pt 0)]])
def aCP (κ:Out UU->Option S):List (Br Tm)×Int->Option S:=fun r=>κ (.ret (sB r.1) [.cells [.int .i64 0,(iI r.2)]])
def av9 (c0_1 sx:Int) (wl:ByteArray) (aas:List Cl) (abq:List Tm) (abZ c0_7:List (Br Tm)) (κ:Out UU->Option S):Int×Int×ByteArray×List Tm×Int->Option S:=fun r=>κ (.ret (.agg [(iI r.1),(iI r.2.1),(.str r.2.2.1),(bZ [] .nil),(sT r.2.2.2.1),(dN [] .nil)]) [.cells [(iI r.2.2.2.2),(iI c0_1),(iI sx),(.str wl),(sC aas),(sT abq),(sB abZ),(sB c0_7)]])
def aHB (c0:Int) (κ:Out UU->Option S):List Tm->Option S:=fun r=>κ (.ret (sT r) [bI c0])
def awU (alJ c0_1 sx:Int) (wl:ByteArray) (aas:List Cl) (abq:List Tm) (abZ c0_7:List (Br Tm)) (c1:Int) (κ:Out UU->Option S):List (Br Tm)->Option S:=fun r=>κ (.ret (sB r) [.cells [(iI alJ),(iI c0_1),(iI sx),(.str wl),(sC aas),(sT abq),(sB abZ),(sB c0_7)],bI c1])
def aHC (aqS aph api:Int) (apl:ByteArray) (apm:List Cl) (apn:List Tm) (apr aps:List (Br Tm)) (κ:Out UU->Option S):Int×Int×ByteArray×List Tm×List (Br Tm)->Option S:=fun r=>κ (.ret (.tuple [(.agg [(iI r.1),(iI r.2.1),(.str r.2.2.1),(bZ [] .nil),(sT r.2.2.2.1),(dN [] .nil)]),(sB r.2.2.2.2)]) [.cells [(pt 1)],.cells [(iI aqS),(iI aph),(iI api),(.str apl),(sC apm),(sT apn),(sB apr),(sB aps)]])
def aHD (κ:Out UU->Option S):Int×Int×ByteArray×List Cl×List Tm->Option S:=fun r=>κ (.ret (.agg [(iI r.1),(iI r.2.1),(.str r.2.2.1),(sC r.2.2.2.1),(dO r.2.2.2.2 .full),(dN [] .nil)]) [])
def aHh (c0_1 sx:Int) (wl:ByteArray) (aas:List Cl) (abq:List Tm) (abZ c0_7:List (Br Tm)) (κ:Out UU->Option S):Int×Int×ByteArray×List Tm×List (Br Tm)×Int->Option S:=fun r=>κ (.ret (.agg [(iI r.1),(iI r.2.1),(.str r.2.2.1),(bZ [] .nil),(sT r.2.2.2.1),(sB r.2.2.2.2.1)]) [.cells [(iI r.2.2.2.2.2),(iI c0_1),(iI sx),(.str wl),(sC aas),(sT abq),(sB abZ),(sB c0_7)]])
def aHi (c1:List (Br Tm)) (κ:Out UU->Option S):(Br Tm)×Int->Option S:=fun r=>κ (.ret (aB r.1) [.cells [(pt 2)],.cells [(sB c1)],bI r.2])
def ayo (c1:List (Br Tm)) (κ:Out UU->Option S):List (Br Tm)×Int->Option S:=fun r=>κ (.ret (frB r.1) [.cells [(pt 2)],.cells [(sB c1)],bI r.2])
def aHj (c1 c2:Tm) (κ:Out UU->Option S):(Br Tm)×Int->Option S:=fun r=>κ (.ret (aB r.1) [.cells [(pt 3)],bT c1,bT c2,bI r.2])
def ayp (c1 c2:Tm) (κ:Out UU->Option S):List (Br Tm)×Int->Option S:=fun r=>κ (.ret (frB r.1) [.cells [(pt 3)],bT c1,bT c2,bI r.2])
def aHk (c0 c1:Tm) (κ:Out UU->Option S):(Br Tm)->Option S:=fun r=>κ (.ret (aB r) [bT c0,bT c1])
def ayq (c0 c1:Tm) (κ:Out UU->Option S):List (Br Tm)->Option S:=fun r=>κ (.ret (frB r) [bT c0,bT c1])
def auz (alJ:List Df) (κ:Out UU->Option S):Pan (Int×Int) (Tm×Bool×Int)->Option S:=fun r=>Pan.elim r (fun r=>κ (.ret (.tuple [(aT r.1),(.bool r.2.1)]) [.cells [(slD alJ .none),(iI r.2.2)]])) (fun e=>κ (.panic (.iface 34 (iI e.1)) [.cells [(slD alJ .none),(iI e.2)]]))
def ayr (alJ:List Df) (κ:Out UU->Option S):Pan (Int×Int) (Tm×Int)->Option S:=fun r=>Pan.elim r (fun r=>κ (.ret (aT r.1) [.cells [(slD alJ .none),(iI r.2)]])) (fun e=>κ (.panic (.iface 34 (iI e.1)) [.cells [(slD alJ .none),(iI e.2)]]))
def aHl (κ:Out UU->Option S):Tm×Int×Int->Option S:=fun r=>κ (.ret (.tuple [(aT r.1),(iI r.2.1),(iI r.2.2)]) [])
def ays (κ:Out UU->Option S):List Df->Option S:=fun r=>κ (.ret (slD r .none) [])
end
end Go.Proofs.YtgmmefmmnakbpaaGreatDoor
namespace Go.Proofs.YtgmmefmmnakbpaaGreatDoor
open Go PI _root_.Go.Proofs.Tryz
set_option maxRecDepth 100000
noncomputable section
variable {S:Type} {o:Obj} (k:Nat)
def F_:Rw S:=aj pW xn fun kind kids Z=>aa k (aub k kind kids) (aE Z)
def mH:Fx S:=fx 8 (fun _=>[]) (fun _=>false) [] [] k f25 true [] 0
theorem eX0 (ho:ai o):Tl o 25 (F_ k:Rw S):=alG (mH k) trivial func25 fun kind kids Z x h=>al9 h
def Od:Rw S:=aj dV xn fun kind kid Z=>aa k (gI k kind kid) (aA Z)
def UA:Fx S:=fp 26 [] [] k f39 0
theorem eX1 (ho:ai o):Tl o 39 (Od k:Rw S):=alG (UA k) trivial func39 fun kind kid Z x h=>al9 h
def Pe (hd:du S):Rw S:=aj Ag xn fun t left Z=>hd t left (F9 Z)
def jA (hd:du S) (k:Nat):Rw S:=aj Lh fh fun a_k p h c0 Z=>aa k (uk hd k a_k p h c0) (kT c0 Z)
def V3 (hd:du S) (k:Nat):Fx S:=fp 12 [(71,Pe hd)] [] k f123 1
theorem kc (o:Obj) (ho:ai o) (hd:du S) (Hd:Tl o 71 (Pe hd)) (k:Nat):Tl o 123 (jA hd k:Rw S):=alG (V3 hd k) ⟨Hd,trivial⟩ func123 fun a_k p j c0 Z x h=>al9 h
def rX4 (hd:du S) (k:Nat):Rw S:=aj kX5 fh fun t c0 Z=>aa k (DX hd k t c0) (kT c0 Z)
def V_ (hd:du S) (k:Nat):Fx S:=fp 60 [(39,Od k),(123,jA hd k)] [(2,aS [1,2,15,16,17] [(2,6),(1000000,1)],ap 4 5),(12,aS [1,9,40,41,42] [(1000000,1)],ap 7 47),(15,aS [1,9,40,41,42,47,48,49] [(1000000,1)],ap 15 13103)] k f74 1
def azC (c0:Int) (t:Tm) (v17:Int):St UU:=⟨[(1,(.func 123 [] [(pt 1000000)])),(2,(pt 2)),(15,(sT t.kids)),(16,(iI t.kids.length)),(17,(iI v17))],[(2,bT t),(1000000,bI c0)],[],[]⟩
def awI (c0:Int) (t:Tm) (v42 h:Int):St UU:=⟨[(1,(.func 123 [] [(pt 1000000)])),(9,(iI h)),(40,(sB t.sys)),(41,(iI t.sys.length)),(42,(iI v42))],[(1000000,bI c0)],[],[]⟩
def aCh (c0:Int) (t:Tm) (v42:Int) (x4:(Br Tm)) (h:Int) (v49:Int):St UU:=⟨[(1,(.func 123 [] [(pt 1000000)])),(9,(iI h)),(40,(sB t.sys)),(41,(iI t.sys.length)),(42,(iI v42)),(47,(sT x4.kids)),(48,(iI x4.kids.length)),(49,(iI v49))],[(1000000,bI c0)],[],[]⟩
section
variable (hd:du S) (k:Nat) (t:Tm) (c0:Int) (Z:Out UU->Option S)
theorem aEu (v42 x4 h Z1): ∀n v49,(V_ hd k).lp Z 15 [Z1] n (aCh c0 t v42 x4 h v49)=anh hd k (kT c0 Z) (fun v42 h=>Z1 (awI c0 t v42 h)) c0 t v42 x4 h n v49:=cF (yi hd k (kT c0 Z) c0 t v42 x4 h (fun v42 h=>Z1 (awI c0 t v42 h)))
theorem aEt: ∀n v42 h,(V_ hd k).lp Z 12 [] n (awI c0 t v42 h)=jp hd k (kT c0 Z) c0 t n v42 h:=aL (fun own=>tp hd k (kT c0 Z) c0 t (fun v42 x4 h v49=>anh hd k (kT c0 Z) own c0 t v42 x4 h k v49) own) rfl (fun _=>rfl) fun r v42 h=>alQ (b:=tp hd k (kT c0 Z) c0 t (fun v42 x4 h v49=>(V_ hd k).lp Z 15 [r] k (aCh c0 t v42 x4 h v49)) (fun v42 h=>r (awI c0 t v42 h)) v42 h) (by kernel_rfl) (by simp only [aEu])
theorem aEs: ∀n v17,(V_ hd k).lp Z 2 [] n (azC c0 t v17)=qS hd k (kT c0 Z) c0 t n v17:=cF (fun own=>tn hd k (kT c0 Z) c0 t (fun v42 h=>jp hd k (kT c0 Z) c0 t k v42 h) own) rfl (fun _=>rfl) fun r v17=>alQ (b:=tn hd k (kT c0 Z) c0 t (fun v42 h=>(V_ hd k).lp Z 12 [] k (awI c0 t v42 h)) (fun v17=>r (azC c0 t v17)) v17) (by kernel_rfl) (by simp only [aEt])
end
theorem eX4 (o:Obj) (ho:ai o) (hd:du S) (Hd:Tl o 71 (Pe hd)) (k:Nat):Tl o 74 (rX4 hd k:Rw S):=alG (V_ hd k) ⟨eX1 k ho,kc o ho hd Hd k,trivial⟩ func74 fun t c0 Z x h=>alQ (b:=IV hd k (kT c0 Z) (fun v17=>(V_ hd k).lp Z 2 [] k (azC c0 t v17)) t c0) (by kernel_rfl) (alQ (by simp only [aEs];rfl) (al h))
def VF (hd:du S) (k:Nat):Fx S:=fp 12 [(74,rX4 hd k)] [] k f71 0
theorem hX2 (o:Obj) (ho:ai o): ∀k:Nat,Tl o 71 (Pe (jf k:du S))
 |0=>dz fun t left Z x h=>by cases h
 |k+1=>alG (VF (jf k) k) ⟨eX4 o ho (jf k) (hX2 o ho k) k,trivial⟩ func71 fun t left Z x h=>alQ (by kernel_rfl) h
def PN (hd:dt S):Rw S:=aj kX6 xX7 fun t c1 Z=>hd t c1 (eJ Z)
def PX (hd:dt S) (k:Nat):Rw S:=aj kX8 xX9 fun t c0 Z=>aa k (pB hd k t c0) (gf Z)
def mT (hd:dt S) (k:Nat):Fx S:=fp 14 [(74,PN hd)] [] k f124 2
theorem eX6 (o:Obj) (ho:ai o) (hd:dt S) (Hd:Tl o 74 (PN hd)) (k:Nat):Tl o 124 (PX hd k:Rw S):=alG (mT hd k) ⟨Hd,trivial⟩ func124 fun t c0 Z x h=>al9 h
def Bh (hd:dt S) (k:Nat):Rw S:=aj Lh xX7 fun a_k p h c1 Z=>aa k (ul hd k a_k p h c1) (eJ Z)
def mU (hd:dt S) (k:Nat):Fx S:=fp 11 [(124,PX hd k)] [] k f125 2
theorem eX7 (o:Obj) (ho:ai o) (hd:dt S) (Hd:Tl o 74 (PN hd)) (k:Nat):Tl o 125 (Bh hd k:Rw S):=alG (mU hd k) ⟨eX6 o ho hd Hd k,trivial⟩ func125 fun a_k p j c1 Z x h=>al9 h
def Wh (hd:dt S) (k:Nat):Fx S:=fp 60 [(39,Od k),(125,Bh hd k)] [(2,aS [1,2,15,16,17] [(2,6),(1000000,1),(1000001,1)],ap 4 5),(12,aS [1,9,40,41,42] [(1000000,1),(1000001,1)],ap 7 47),(15,aS [1,9,40,41,42,47,48,49] [(1000000,1),(1000001,1)],ap 15 13103)] k f74 2
def azE (t:Tm) (arm v17:Int):St UU:=⟨[(1,(.func 125 [] [(pt 1000000)])),(2,(pt 2)),(15,(sT t.kids)),(16,(iI t.kids.length)),(17,(iI v17))],[(2,bT t),(1000000,.cells [(.func 124 [] [(pt 1000001),(pt 1000000)])]),(1000001,bI arm)],[],[]⟩
def awL (t:Tm) (e1_0' v42 h:Int):St UU:=⟨[(1,(.func 125 [] [(pt 1000000)])),(9,(iI h)),(40,(sB t.sys)),(41,(iI t.sys.length)),(42,(iI v42))],[(1000000,.cells [(.func 124 [] [(pt 1000001),(pt 1000000)])]),(1000001,bI e1_0')],[],[]⟩
def aCm (t:Tm) (v42:Int) (x4:(Br Tm)) (h:Int) (e1_0'' v49:Int):St UU:=⟨[(1,(.func 125 [] [(pt 1000000)])),(9,(iI h)),(40,(sB t.sys)),(41,(iI t.sys.length)),(42,(iI v42)),(47,(sT x4.kids)),(48,(iI x4.kids.length)),(49,(iI v49))],[(1000000,.cells [(.func 124 [] [(pt 1000001),(pt 1000000)])]),(1000001,bI e1_0'')],[],[]⟩
section
variable (hd:dt S) (k:Nat) (t:Tm) (c1:Int) (Z:Out UU->Option S)
theorem aEE (v42 x4 h Z1): ∀n e1_0'' v49,(Wh hd k).lp Z 15 [Z1] n (aCm t v42 x4 h e1_0'' v49)=kL hd k (eJ Z) (fun e1_0' v42 h=>Z1 (awL t e1_0' v42 h)) t v42 x4 h n e1_0'' v49:=aL (yg hd k (eJ Z) t v42 x4 h (fun e1_0' v42 h=>Z1 (awL t e1_0' v42 h)))
theorem aED: ∀n e1_0' v42 h,(Wh hd k).lp Z 12 [] n (awL t e1_0' v42 h)=atY hd k (eJ Z) t n e1_0' v42 h:=eW (fun own=>tj hd k (eJ Z) t (fun v42 x4 h e1_0'' v49=>kL hd k (eJ Z) own t v42 x4 h k e1_0'' v49) own) rfl (fun _=>rfl) fun r e1_0' v42 h=>alQ (b:=tj hd k (eJ Z) t (fun v42 x4 h e1_0'' v49=>(Wh hd k).lp Z 15 [r] k (aCm t v42 x4 h e1_0'' v49)) (fun e1_0' v42 h=>r (awL t e1_0' v42 h)) e1_0' v42 h) (by kernel_rfl) (by simp only [aEE])
theorem aEC: ∀n arm v17,(Wh hd k).lp Z 2 [] n (azE t arm v17)=nY hd k (eJ Z) t n arm v17:=aL (fun own=>ti hd k (eJ Z) t (fun e1_0' v42 h=>atY hd k (eJ Z) t k e1_0' v42 h) own) rfl (fun _=>rfl) fun r arm v17=>alQ (b:=ti hd k (eJ Z) t (fun e1_0' v42 h=>(Wh hd k).lp Z 12 [] k (awL t e1_0' v42 h)) (fun arm v17=>r (azE t arm v17)) arm v17) (by kernel_rfl) (by simp only [aED])
end
theorem hX5 (o:Obj) (ho:ai o): ∀k:Nat,Tl o 74 (PN (atf k:dt S))
 |0=>dz fun t c1 Z x h=>by cases h
 |k+1=>alG (Wh (atf k) k) ⟨eX1 k ho,eX7 o ho (atf k) (hX5 o ho k) k,trivial⟩ func74 fun t c1 Z x h=>alQ (b:=IT (atf k) k (eJ Z) (fun arm v17=>(Wh (atf k) k).lp Z 2 [] k (azE t arm v17)) t c1) (by kernel_rfl) (alQ (by simp only [aEC];rfl) h)
def GR:Rw S:=aj Ag xn fun t most Z=>aa k (zE k t most) (F9 Z)
def WI:Fx S:=fp 10 [(124,PX (atf k) k)] [] k f72 0
theorem Kw (ho:ai o):Tl o 72 (GR k:Rw S):=alG (WI k) ⟨eX6 o ho (atf k) (hX5 o ho k) k,trivial⟩ func72 fun t most Z x h=>al9 h
def Qg:Rw S:=aj ar9 xn fun t Z=>aa k (zD k t) (da Z)
def WO:Fx S:=fp 11 [(71,Pe (jf k)),(72,GR k)] [] k f40 0
theorem eX9 (ho:ai o):Tl o 40 (Qg k:Rw S):=alG (WO k) ⟨hX2 o ho k,Kw k ho,trivial⟩ func40 fun t Z x h=>al9 h
def Oe:Rw S:=aj atV xn fun kind Z=>aa k (zA k kind) (da Z)
def UB:Fx S:=fp 38 [] [] k f38 0
theorem aat (ho:ai o):Tl o 38 (Oe k:Rw S):=alG (UB k) trivial func38 fun kind Z x h=>al9 h
def Ol:Rw S:=aj atV xn fun kind Z=>aa k (lJ k kind) (da Z)
def UI:Fx S:=fp 10 [] [] k f126 0
theorem aaA (ho:ai o):Tl o 126 (Ol k:Rw S):=alG (UI k) trivial func126 fun kind Z x h=>al9 h
def Ov:Rw S:=aj Ld xn fun s Z=>aa k (zC k s) (F9 Z)
def UO:Fx S:=fp 49 [] [(2,aS [0,7,8] [],ap 4 5),(1000006,aS [0,3,4,5,7,8] [],ap 12 3685)] k f127 0
def awD (s:ByteArray) (h:Int):St UU:=⟨[(0,(.str s)),(7,(.int .i64 (s.size:Int))),(8,(iI h))],[],[],[]⟩
def aBH (s:ByteArray) (j:Int) (x1:UInt8) (h:Bool):St UU:=⟨[(0,(.str s)),(3,(iI j)),(4,(.int .u8 (x1.toNat:Int))),(5,(.bool h)),(7,(.int .i64 (s.size:Int))),(8,(iI j))],[],[],[]⟩
section
variable (k:Nat) (s:ByteArray) (Z:Out UU->Option S)
theorem aDK (j x1 Z0): ∀n h,(UO k).jn Z 1000006 [Z0] n (aBH s j x1 h)=Aq k (F9 Z) (fun j=>Z0 (awD s j)) s j x1 n h:=nx (Dk k (F9 Z) s j x1 (fun j=>Z0 (awD s j)))
theorem aDJ: ∀n j,(UO k).lp Z 2 [] n (awD s j)=n7 k (F9 Z) s n j:=cF (fun own=>tv k (F9 Z) s (fun j x1 h=>Aq k (F9 Z) own s j x1 k h) own) rfl (fun _=>rfl) fun r j=>alQ (b:=tv k (F9 Z) s (fun j x1 h=>(UO k).jn Z 1000006 [r] k (aBH s j x1 h)) (fun j=>r (awD s j)) j) (by kernel_rfl) (by simp only [aDK])
end
theorem aaH (ho:ai o):Tl o 127 (Ov k:Rw S):=alG (UO k) trivial func127 fun s Z x h=>alQ (b:=IY k (F9 Z) (fun j=>(UO k).lp Z 2 [] k (awD s j)) s) (by kernel_rfl) (alQ (by simp only [aDJ];rfl) (al h))
def OC:Rw S:=aj uG xn fun s Z=>aa k (pm k s) (F9 Z)
def UX:Fx S:=fp 6 [] [] k f224 0
theorem aaO (ho:ai o):Tl o 224 (OC k:Rw S):=alG (UX k) trivial func224 fun s Z x h=>al9 h
def OM:Rw S:=aj ny xn fun c Z=>aa k (tC k c) (F9 Z)
def rU:Fx S:=fp 11 [(224,OC k)] [] k f198 0
theorem aaY (ho:ai o):Tl o 198 (OM k:Rw S):=alG (rU k) ⟨aaO k ho,trivial⟩ func198 fun c Z x h=>al9 h
def OU:Rw S:=aj uH xn fun a b Z=>aa k (pb k a b) (Oa Z)
def Vb:Fx S:=fp 16 [] [] k f225 0
theorem aa6 (ho:ai o):Tl o 225 (OU k:Rw S):=alG (Vb k) trivial func225 fun a b Z x h=>al9 h
def Gn:Rw S:=aj uH xn fun a b Z=>aa k (yA k a b) (F9 Z)
def Vg:Fx S:=fp 10 [(225,OU k)] [] k f201 0
theorem J7 (ho:ai o):Tl o 201 (Gn k:Rw S):=alG (Vg k) ⟨aa6 k ho,trivial⟩ func201 fun a b Z x h=>al9 h
def A7:Rw S:=aj EU wC fun d c0 Z=>aa k (yC k d c0) (Oc c0 Z)
def Vn:Fx S:=fp 12 [(201,Gn k)] [] k f200 1
theorem Eb (ho:ai o):Tl o 200 (A7 k:Rw S):=alG (Vn k) ⟨J7 k ho,trivial⟩ func200 fun d c0 Z x h=>al9 h
def O5:Rw S:=aj Le wC fun s c0 Z=>aa k (DV k s c0) (A1 c0 Z)
def Vr:Fx S:=fp 19 [(200,A7 k)] [(2,aS [0,1,7,8] [(1000000,2)],ap 4 5)] k f205 1
def aBP (c0:Cl) (s:List Cl) (h:Int):St UU:=⟨[(0,(sC s)),(1,(.func 200 [] [(pt 1000000)])),(7,(iI s.length)),(8,(iI h))],[(1000000,bC c0)],[],[]⟩
section
variable (k:Nat) (s:List Cl) (c0:Cl) (Z:Out UU->Option S)
theorem aDS: ∀n h,(Vr k).lp Z 2 [] n (aBP c0 s h)=qO k (A1 c0 Z) c0 s n h:=cF (yc k (A1 c0 Z) c0 s)
end
theorem abg (ho:ai o):Tl o 205 (O5 k:Rw S):=alG (Vr k) ⟨Eb k ho,trivial⟩ func205 fun s c0 Z x h=>alQ (b:=IM k (A1 c0 Z) (fun j=>(Vr k).lp Z 2 [] k (aBP c0 s j)) s c0) (by kernel_rfl) (alQ (by simp only [aDS];rfl) (al h))
def O9:Rw S:=aj Le wC fun s c0 Z=>aa k (DT k s c0) (Oc c0 Z)
def Vx:Fx S:=fp 9 [(205,O5 k)] [] k f174 1
theorem abk (ho:ai o):Tl o 174 (O9 k:Rw S):=alG (Vx k) ⟨abg k ho,trivial⟩ func174 fun s c0 Z x h=>al9 h
def Pf:Rw S:=aj EU alt fun c c0 Z=>aa k (yB k c c0) (ahX c0 Z)
def CK:Fx S:=fp 7 [(174,O9 k)] [] k f199 1
theorem abr (ho:ai o):Tl o 199 (Pf k:Rw S):=alG (CK k) ⟨abk k ho,trivial⟩ func199 fun c c0 Z x h=>al9 h
def Pp:Rw S:=aj eo xn fun l Z=>aa k (gy k l) (aq1 Z)
def VK:Fx S:=fx 55 (fun _=>[]) (fun|53=>true|_=>false) [(198,OM k),(199,Pf k)] [(4,⟨[(4,km),(5,km),(13,km),(14,km),(15,km)],[(5,[an2 200320]),(12,[])]⟩,ap 6 23),(15,⟨[(8,km),(9,an2 100009),(34,km),(35,km),(36,km)],[(5,[km])]⟩,ap 9 191)] k f172 false [] 0
def azx (l:List Cl) (j:List (Cl×Bool)) (h:List Cl) (q:Int):St UU:=⟨[(4,(.mp 12)),(5,(pt 5)),(13,(sC l)),(14,(iI l.length)),(15,(iI q))],[(5,.cells [(.own 200320 0)]),(12,.map ET.C j)],[(200320,⟨0,ET.C,h⟩)],[(200320,.wr)]⟩
def aBS (h:List Cl) (v36:Int) (j:List Cl):St UU:=⟨[(8,(.func 199 [] [(pt 5)])),(9,(.own 100009 0)),(34,(sC h)),(35,(iI h.length)),(36,(iI v36))],[(5,.cells [(sC h)])],[(100009,⟨0,ET.C,j⟩)],[(100009,.wr)]⟩
section
variable (k:Nat) (l:List Cl) (Z:Out UU->Option S)
theorem aDW (h): ∀n v36 j,(VK k).lp Z 15 [] n (aBS h v36 j)=nz k (aq1 Z) h n v36 j:=aL (wM k (aq1 Z) h)
theorem aDV: ∀n q h x,(VK k).lp Z 4 [] n (azx l q h x)=pZ k (aq1 Z) l n q h x:=eW (fun own=>awk k (aq1 Z) l (fun h v36 j=>nz k (aq1 Z) h k v36 j) own) rfl (fun _=>rfl) fun r q h x=>alQ (b:=awk k (aq1 Z) l (fun h v36 j=>(VK k).lp Z 15 [] k (aBS h v36 j)) (fun q h x=>r (azx l q h x)) q h x) (by kernel_rfl) (by simp only [aDW])
end
theorem abB (ho:ai o):Tl o 172 (Pp k:Rw S):=alG (VK k) ⟨aaY k ho,abr k ho,trivial⟩ func172 fun l Z x h=>alQ (b:=Hw k (aq1 Z) (fun q j z=>(VK k).lp Z 4 [] k (azx l q j z)) l) (by kernel_rfl) (alQ (by simp only [aDV];rfl) (al h))
def Pu:Rw S:=aj jk xn fun s1 s2 Z=>aa k (zz k s1 s2) (F9 Z)
def VS:Fx S:=fp 26 [] [(4,aS [0,1,12,13] [],ap 5 11)] k f131 0
def aBW (s1 s2:List Cl) (h:Int):St UU:=⟨[(0,(sC s1)),(1,(sC s2)),(12,(iI s1.length)),(13,(iI h))],[],[],[]⟩
section
variable (k:Nat) (s1 s2:List Cl) (Z:Out UU->Option S)
theorem aD0: ∀n h,(VS k).lp Z 4 [] n (aBW s1 s2 h)=qN k (F9 Z) s1 s2 n h:=cF (yb k (F9 Z) s1 s2)
end
theorem abG (ho:ai o):Tl o 131 (Pu k:Rw S):=alG (VS k) trivial func131 fun s1 s2 Z x h=>alQ (b:=IL k (F9 Z) (fun j=>(VS k).lp Z 4 [] k (aBW s1 s2 j)) s1 s2) (by kernel_rfl) (alQ (by simp only [aD0];rfl) (al h))
def jz:Rw S:=aj eo xn fun f Z=>aa k (hY k f) (F9 Z)
def anH:Fx S:=fp 17 [(131,Pu k),(172,Pp k)] [] k f128 0
theorem j_ (ho:ai o):Tl o 128 (jz k:Rw S):=alG (anH k) ⟨abG k ho,abB k ho,trivial⟩ func128 fun f Z x h=>al9 h
def PE:Rw S:=aj atV xn fun i Z=>aa k (nd k i) (F9 Z)
def CU:Fx S:=fp 9 [] [] k f229 0
theorem abQ (ho:ai o):Tl o 229 (PE k:Rw S):=alG (CU k) trivial func229 fun i Z x h=>al9 h
def ayB:Rw S:=aj lS xn fun s i Z=>aa k (jX k s i) (b_ Z)
def VZ:Fx S:=fp 16 [(229,PE k)] [] k f204 0
theorem pL (ho:ai o):Tl o 204 (ayB k:Rw S):=alG (VZ k) ⟨abQ k ho,trivial⟩ func204 fun s i Z x h=>al9 h
def vL:Rw S:=aj eo xn fun f Z=>aa k (jc k f) (b_ Z)
def V0:Fx S:=fp 22 [(204,ayB k)] [(3,aS [3,6,7,8] [],ap 5 11)] k f173 0
def aB8 (f:List Cl) (h j:Int):St UU:=⟨[(3,(iU h)),(6,(sC f)),(7,(iI f.length)),(8,(iI j))],[],[],[]⟩
section
variable (k:Nat) (f:List Cl) (Z:Out UU->Option S)
theorem aEc: ∀n h j,(V0 k).lp Z 3 [] n (aB8 f h j)=qb k (b_ Z) f n h j:=aL (wY k (b_ Z) f)
end
theorem zN (ho:ai o):Tl o 173 (vL k:Rw S):=alG (V0 k) ⟨pL k ho,trivial⟩ func173 fun f Z x h=>alQ (b:=HL k (b_ Z) (fun j q=>(V0 k).lp Z 3 [] k (aB8 f j q)) f) (by kernel_rfl) (alQ (by simp only [aEc];rfl) (al h))
def Ba:Rw S:=aj EV xn fun f dims Z=>aa k (lK k f dims) (F9 Z)
def V1:Fx S:=fp 15 [(173,vL k)] [] k f129 0
theorem Ef (ho:ai o):Tl o 129 (Ba k:Rw S):=alG (V1 k) ⟨zN k ho,trivial⟩ func129 fun f dims Z x h=>al9 h
def Bb:Rw S:=aj ny xn fun c Z=>aa k (tB k c) (F9 Z)
def CV:Fx S:=fp 9 [] [] k f175 0
theorem Eg (ho:ai o):Tl o 175 (Bb k:Rw S):=alG (CV k) trivial func175 fun c Z x h=>al9 h
def PF:Rw S:=aj Lf xn fun s Z=>aa k (DW k s) (da Z)
def V2:Fx S:=fp 19 [(175,Bb k)] [(2,aS [0,1,7,8] [],ap 4 5)] k f205 0
def aB9 (s:List Cl) (h:Int):St UU:=⟨[(0,(sC s)),(1,(.func 175 [] [])),(7,(iI s.length)),(8,(iI h))],[],[],[]⟩
section
variable (k:Nat) (s:List Cl) (Z:Out UU->Option S)
theorem aEd: ∀n h,(V2 k).lp Z 2 [] n (aB9 s h)=qP k (da Z) s n h:=cF (yd k (da Z) s)
end
theorem abR (ho:ai o):Tl o 205 (PF k:Rw S):=alG (V2 k) ⟨Eg k ho,trivial⟩ func205 fun s Z x h=>alQ (b:=IN k (da Z) (fun j=>(V2 k).lp Z 2 [] k (aB9 s j)) s) (by kernel_rfl) (alQ (by simp only [aEd];rfl) (al h))
def GH:Rw S:=aj Lf xn fun s Z=>aa k (DU k s) (F9 Z)
def V4:Fx S:=fp 9 [(205,PF k)] [] k f174 0
theorem Kl (ho:ai o):Tl o 174 (GH k:Rw S):=alG (V4 k) ⟨abR k ho,trivial⟩ func174 fun s Z x h=>al9 h
def PG:Rw S:=aj eo xn fun f Z=>aa k (pd k f) (F9 Z)
def CW:Fx S:=fp 10 [(128,jz k),(174,GH k)] [] k f130 0
theorem abS (ho:ai o):Tl o 130 (PG k:Rw S):=alG (CW k) ⟨j_ k ho,Kl k ho,trivial⟩ func130 fun f Z x h=>al9 h
def PH:Rw S:=aj amR xn fun t vars dims Z=>aa k (uj k t vars dims) (F9 Z)
def V5:Fx S:=fp 138 [(38,Oe k),(126,Ol k),(127,Ov k),(128,jz k),(129,Ba k),(130,PG k)] [(1000003,aS [1,2,3] [(3,6)],ap 2 3),(15,aS [2,3,107,108,109] [(3,6)],ap 6 23)] k f73 0
def aB_ (t:Tm) (vars dims:Int):St UU:=⟨[(1,(iI vars)),(2,(iI dims)),(3,(pt 3))],[(3,bT t)],[],[]⟩
def aCa (t:Tm) (dims:Int) (v109:Int):St UU:=⟨[(2,(iI dims)),(3,(pt 3)),(107,(sB t.sys)),(108,(iI t.sys.length)),(109,(iI v109))],[(3,bT t)],[],[]⟩
section
variable (k:Nat) (t:Tm) (vars dims:Int) (Z:Out UU->Option S)
theorem aEf: ∀n v109,(V5 k).lp Z 15 [] n (aCa t dims v109)=kO k (F9 Z) t dims n v109:=cF (yl k (F9 Z) t dims)
theorem aEe: ∀n,(V5 k).jn Z 1000003 [] n (aB_ t vars dims)=Ar k (F9 Z) t vars dims n:=gL (tw k (F9 Z) t vars dims (fun v109=>kO k (F9 Z) t dims k v109)) rfl (fun _=>rfl) (alQ (b:=tw k (F9 Z) t vars dims (fun v109=>(V5 k).lp Z 15 [] k (aCa t dims v109))) (by kernel_rfl) (by simp only [aEf]))
end
theorem abT (ho:ai o):Tl o 73 (PH k:Rw S):=alG (V5 k) ⟨aat k ho,aaA k ho,aaH k ho,j_ k ho,Ef k ho,abS k ho,trivial⟩ func73 fun t vars dims Z x h=>alQ (b:=IZ k (F9 Z) ((V5 k).jn Z 1000003 [] k (aB_ t vars dims)) t vars dims) (by kernel_rfl) (alQ (by simp only [aEe];rfl) (al h))
def GI (hd:dr S):Rw S:=aj Lg xn fun t vars dims bound Z=>hd t vars dims bound (F9 Z)
def PJ (hd:dr S) (k:Nat):Rw S:=aj adA Ut fun a_k v d c0 c1 c2 Z=>aa k (uh hd k a_k v d c0 c1 c2) (gc c0 c1 c2 Z)
def sc (hd:dr S) (k:Nat):Fx S:=fp 21 [(41,GI hd)] [] k f75 3
theorem abU (o:Obj) (ho:ai o) (hd:dr S) (Hd:Tl o 41 (GI hd)) (k:Nat):Tl o 75 (PJ hd k:Rw S):=alG (sc hd k) ⟨Hd,trivial⟩ func75 fun a_k v d c0 c1 c2 Z x h=>al9 h
def vM (hd:dr S) (k:Nat):Rw S:=aj adB Ut fun t c0 c1 c2 Z=>aa k (zB hd k t c0 c1 c2) (gc c0 c1 c2 Z)
def V7 (hd:dr S) (k:Nat):Fx S:=fp 60 [(39,Od k),(75,PJ hd k)] [(2,aS [1,2,15,16,17] [(2,6),(1000000,1),(1000001,1),(1000002,1)],ap 4 5),(12,aS [1,9,40,41,42] [(1000000,1),(1000001,1),(1000002,1)],ap 7 47),(15,aS [1,9,40,41,42,47,48,49] [(1000000,1),(1000001,1),(1000002,1)],ap 15 13103)] k f74 3
def azz (c0 c1:Int) (c2:Bool) (t:Tm) (v17:Int):St UU:=⟨[(1,(.func 75 [] [(pt 1000000),(pt 1000001),(pt 1000002)])),(2,(pt 2)),(15,(sT t.kids)),(16,(iI t.kids.length)),(17,(iI v17))],[(2,bT t),(1000000,bI c0),(1000001,bI c1),(1000002,.cells [(.bool c2)])],[],[]⟩
def awF (c0 c1:Int) (c2:Bool) (t:Tm) (v42 h:Int):St UU:=⟨[(1,(.func 75 [] [(pt 1000000),(pt 1000001),(pt 1000002)])),(9,(iI h)),(40,(sB t.sys)),(41,(iI t.sys.length)),(42,(iI v42))],[(1000000,bI c0),(1000001,bI c1),(1000002,.cells [(.bool c2)])],[],[]⟩
def aCb (c0 c1:Int) (c2:Bool) (t:Tm) (v42:Int) (x4:(Br Tm)) (h:Int) (v49:Int):St UU:=⟨[(1,(.func 75 [] [(pt 1000000),(pt 1000001),(pt 1000002)])),(9,(iI h)),(40,(sB t.sys)),(41,(iI t.sys.length)),(42,(iI v42)),(47,(sT x4.kids)),(48,(iI x4.kids.length)),(49,(iI v49))],[(1000000,bI c0),(1000001,bI c1),(1000002,.cells [(.bool c2)])],[],[]⟩
section
variable (hd:dr S) (k:Nat) (t:Tm) (c0 c1:Int) (c2:Bool) (Z:Out UU->Option S)
theorem aEi (v42 x4 h Z1): ∀n v49,(V7 hd k).lp Z 15 [Z1] n (aCb c0 c1 c2 t v42 x4 h v49)=mi hd k (gc c0 c1 c2 Z) (fun v42 h=>Z1 (awF c0 c1 c2 t v42 h)) c0 c1 c2 t v42 x4 h n v49:=cF (yh hd k (gc c0 c1 c2 Z) c0 c1 c2 t v42 x4 h (fun v42 h=>Z1 (awF c0 c1 c2 t v42 h)))
theorem aEh: ∀n v42 h,(V7 hd k).lp Z 12 [] n (awF c0 c1 c2 t v42 h)=iC hd k (gc c0 c1 c2 Z) c0 c1 c2 t n v42 h:=aL (fun own=>tl hd k (gc c0 c1 c2 Z) c0 c1 c2 t (fun v42 x4 h v49=>mi hd k (gc c0 c1 c2 Z) own c0 c1 c2 t v42 x4 h k v49) own) rfl (fun _=>rfl) fun r v42 h=>alQ (b:=tl hd k (gc c0 c1 c2 Z) c0 c1 c2 t (fun v42 x4 h v49=>(V7 hd k).lp Z 15 [r] k (aCb c0 c1 c2 t v42 x4 h v49)) (fun v42 h=>r (awF c0 c1 c2 t v42 h)) v42 h) (by kernel_rfl) (by simp only [aEi])
theorem aEg: ∀n v17,(V7 hd k).lp Z 2 [] n (azz c0 c1 c2 t v17)=nZ hd k (gc c0 c1 c2 Z) c0 c1 c2 t n v17:=cF (fun own=>tk hd k (gc c0 c1 c2 Z) c0 c1 c2 t (fun v42 h=>iC hd k (gc c0 c1 c2 Z) c0 c1 c2 t k v42 h) own) rfl (fun _=>rfl) fun r v17=>alQ (b:=tk hd k (gc c0 c1 c2 Z) c0 c1 c2 t (fun v42 h=>(V7 hd k).lp Z 12 [] k (awF c0 c1 c2 t v42 h)) (fun v17=>r (azz c0 c1 c2 t v17)) v17) (by kernel_rfl) (by simp only [aEh])
end
theorem aFF (o:Obj) (ho:ai o) (hd:dr S) (Hd:Tl o 41 (GI hd)) (k:Nat):Tl o 74 (vM hd k:Rw S):=alG (V7 hd k) ⟨eX1 k ho,abU o ho hd Hd k,trivial⟩ func74 fun t c0 c1 c2 Z x h=>alQ (b:=IU hd k (gc c0 c1 c2 Z) (fun v17=>(V7 hd k).lp Z 2 [] k (azz c0 c1 c2 t v17)) t c0 c1 c2) (by kernel_rfl) (alQ (by simp only [aEg];rfl) (al h))
def V6 (hd:dr S) (k:Nat):Fx S:=fp 24 [(73,PH k),(74,vM hd k)] [] k f41 0
theorem azl (o:Obj) (ho:ai o): ∀k:Nat,Tl o 41 (GI (ic k:dr S))
 |0=>dz fun t vars dims bound Z x h=>by cases h
 |k+1=>alG (V6 (ic k) k) ⟨abT k ho,aFF o ho (ic k) (azl o ho k) k,trivial⟩ func41 fun t vars dims bound Z x h=>alQ (by kernel_rfl) h
def PK:Rw S:=aj ar9 xn fun t Z=>aa k (asi k t) (da Z)
def V8:Fx S:=fp 12 [(40,Qg k),(41,GI (ic k))] [] k f23 0
theorem abV (ho:ai o):Tl o 23 (PK k:Rw S):=alG (V8 k) ⟨eX9 k ho,azl o ho k,trivial⟩ func23 fun t Z x h=>al9 h
def PL (hd:eP S):Rw S:=aj ar9 xn fun t Z=>hd t (aF Z)
def iJ (hd:eP S) (k:Nat):Rw S:=aj EW xn fun l Z=>aa k (ui hd k l) (AN Z)
def V9 (hd:eP S) (k:Nat):Fx S:=fp 19 [(30,PL hd)] [(3,⟨[(3,an2 100003),(6,km),(7,km),(8,km)],[]⟩,ap 5 11)] k f50 0
def aCc (l:List Tm) (h:List Tm) (j:Int):St UU:=⟨[(3,(.own 100003 0)),(6,(sT l)),(7,(iI l.length)),(8,(iI j))],[],[(100003,⟨0,ET.T,h⟩)],[(100003,.wr)]⟩
section
variable (hd:eP S) (k:Nat) (l:List Tm) (Z:Out UU->Option S)
theorem aEj: ∀n h j,(V9 hd k).lp Z 3 [] n (aCc l h j)=av5 hd k (AN Z) l n h j:=aL (yf hd k (AN Z) l)
end
theorem jh (o:Obj) (ho:ai o) (hd:eP S) (Hd:Tl o 30 (PL hd)) (k:Nat):Tl o 50 (iJ hd k:Rw S):=alG (V9 hd k) ⟨Hd,trivial⟩ func50 fun l Z x h=>alQ (b:=IS hd k (AN Z) (fun j q=>(V9 hd k).lp Z 3 [] k (aCc l j q)) l) (by kernel_rfl) (alQ (by simp only [aEj];rfl) (al h))
def mS (hd:eP S) (k:Nat):Fx S:=fp 40 [(49,G2),(50,iJ hd k)] [(3,⟨[(2,km),(3,km),(20,km),(21,km),(22,km)],[(2,[km,km,km,an2 200131,an2 200132,an2 200133]),(3,[km,km,km,km,km,an2 200197])]⟩,ap 5 11)] k f30 0
def FH (t:Tm) (r1:List Cl) (r2:List Tm) (h:List (Br Tm)) (v22:Int):St UU:=⟨[(2,(pt 2)),(3,(pt 3)),(20,(sB t.sys)),(21,(iI t.sys.length)),(22,(iI v22))],[(2,.cells [(iI 0),(iI 0),arO,(.own 200131 0),(.own 200132 0),(.own 200133 0)]),(3,.cells [(iI t.kind),(iI t.n),(.str t.name),(sC r1),(sT r2),(.own 200197 0)])],[(200197,⟨0,ET.B,h⟩),(200133,arv),(200132,arI),(200131,arB)],[(200197,.wr),(200133,.wr),(200132,.wr),(200131,.wr)]⟩
section
variable (hd:eP S) (k:Nat) (t:Tm) (Z:Out UU->Option S)
theorem YS (r1 r2): ∀n h v22,(mS hd k).lp Z 3 [] n (FH t r1 r2 h v22)=qQ hd k (aF Z) t r1 r2 n h v22:=aL (ye hd k (aF Z) t r1 r2)
end
theorem ath (o:Obj) (ho:ai o): ∀k:Nat,Tl o 30 (PL (dJ k:eP S))
 |0=>dz fun t Z x h=>by cases h
 |k+1=>alG (mS (dJ k) k) ⟨akS o ho,jh o ho (dJ k) (ath o ho k) k,trivial⟩ func30 fun t Z x h=>alQ (b:=IP (dJ k) k (aF Z) (fun r1 q j v22=>(mS (dJ k) k).lp Z 3 [] k (FH t r1 q j v22)) t) (by kernel_rfl) (alQ (by simp only [YS];rfl) h)
def aHL:Rw S:=aj EX fh fun c0 Z=>aa k (dG k c0) (kT c0 Z)
def ox:Rw S:=aj EX fh fun c0 Z=>aa k (dG k c0) (F9 Z)
def CX:Fx S:=fp 8 [] [] k f84 1
theorem aFG (ho:ai o):Tl o 84 (aHL k:Rw S):=alG (CX k) trivial func84 fun c0 Z x h=>al9 h
theorem atg (ho:ai o):Tl o 84 (ox k:Rw S):=tlS (aFG k ho) fun c0 Z x h=>alQ (b:=aa k (dG k c0) (kT c0 (DB _ Z))) (by kernel_rfl) (alQ (congrArg (aa k (dG k c0)) (funext fun r=>if_pos rfl)) h)
def PM (hd:dq S):Rw S:=aj ar9 xn fun t Z=>hd t (da Z)
def jB (hd:dq S) (k:Nat):Rw S:=aj Lh fh fun a_k p h c0 Z=>aa k (ug hd k a_k p h c0) (N7 Z)
def Wa (hd:dq S) (k:Nat):Fx S:=fp 12 [(148,PM hd)] [] k f181 1
theorem ke (o:Obj) (ho:ai o) (hd:dq S) (Hd:Tl o 148 (PM hd)) (k:Nat):Tl o 181 (jB hd k:Rw S):=alG (Wa hd k) ⟨Hd,trivial⟩ func181 fun a_k p j c0 Z x h=>al9 h
def Bc (hd:dq S) (k:Nat):Rw S:=aj adC fh fun t c0 Z=>aa k (DY hd k t c0) (N7 Z)
def auW (hd:dq S) (k:Nat):Fx S:=fp 60 [(39,Od k),(181,jB hd k)] [(2,aS [1,2,15,16,17] [(2,6),(1000000,1)],ap 4 5),(12,aS [1,9,40,41,42] [(1000000,1)],ap 7 47),(15,aS [1,9,40,41,42,47,48,49] [(1000000,1)],ap 15 13103)] k f74 1
def azA (t:Tm) (h v17:Int):St UU:=⟨[(1,(.func 181 [] [(pt 1000000)])),(2,(pt 2)),(15,(sT t.kids)),(16,(iI t.kids.length)),(17,(iI v17))],[(2,bT t),(1000000,bI h)],[],[]⟩
def awG (t:Tm) (e0_0' v42 h:Int):St UU:=⟨[(1,(.func 181 [] [(pt 1000000)])),(9,(iI h)),(40,(sB t.sys)),(41,(iI t.sys.length)),(42,(iI v42))],[(1000000,bI e0_0')],[],[]⟩
def aCd (t:Tm) (v42:Int) (x4:(Br Tm)) (h:Int) (e0_0'' v49:Int):St UU:=⟨[(1,(.func 181 [] [(pt 1000000)])),(9,(iI h)),(40,(sB t.sys)),(41,(iI t.sys.length)),(42,(iI v42)),(47,(sT x4.kids)),(48,(iI x4.kids.length)),(49,(iI v49))],[(1000000,bI e0_0'')],[],[]⟩
section
variable (hd:dq S) (k:Nat) (t:Tm) (c0:Int) (Z:Out UU->Option S)
theorem aEm (v42 x4 h Z1): ∀n e0_0'' v49,(auW hd k).lp Z 15 [Z1] n (aCd t v42 x4 h e0_0'' v49)=n4 hd k (N7 Z) (fun e0_0' v42 h=>Z1 (awG t e0_0' v42 h)) t v42 x4 h n e0_0'' v49:=aL (yj hd k (N7 Z) t v42 x4 h (fun e0_0' v42 h=>Z1 (awG t e0_0' v42 h)))
theorem aEl: ∀n e0_0' v42 h,(auW hd k).lp Z 12 [] n (awG t e0_0' v42 h)=kM hd k (N7 Z) t n e0_0' v42 h:=eW (fun own=>tr hd k (N7 Z) t (fun v42 x4 h e0_0'' v49=>n4 hd k (N7 Z) own t v42 x4 h k e0_0'' v49) own) rfl (fun _=>rfl) fun r e0_0' v42 h=>alQ (b:=tr hd k (N7 Z) t (fun v42 x4 h e0_0'' v49=>(auW hd k).lp Z 15 [r] k (aCd t v42 x4 h e0_0'' v49)) (fun e0_0' v42 h=>r (awG t e0_0' v42 h)) e0_0' v42 h) (by kernel_rfl) (by simp only [aEm])
theorem aEk: ∀n j v17,(auW hd k).lp Z 2 [] n (azA t j v17)=av6 hd k (N7 Z) t n j v17:=aL (fun own=>tq hd k (N7 Z) t (fun e0_0' v42 h=>kM hd k (N7 Z) t k e0_0' v42 h) own) rfl (fun _=>rfl) fun r j v17=>alQ (b:=tq hd k (N7 Z) t (fun e0_0' v42 h=>(auW hd k).lp Z 12 [] k (awG t e0_0' v42 h)) (fun j v17=>r (azA t j v17)) j v17) (by kernel_rfl) (by simp only [aEl])
end
theorem Eh (o:Obj) (ho:ai o) (hd:dq S) (Hd:Tl o 148 (PM hd)) (k:Nat):Tl o 74 (Bc hd k:Rw S):=alG (auW hd k) ⟨eX1 k ho,ke o ho hd Hd k,trivial⟩ func74 fun t c0 Z x h=>alQ (b:=IW hd k (N7 Z) (fun j v17=>(auW hd k).lp Z 2 [] k (azA t j v17)) t c0) (by kernel_rfl) (alQ (by simp only [aEk];rfl) (al h))
def CY (hd:dq S) (k:Nat):Fx S:=fp 8 [(74,Bc hd k)] [] k f148 0
theorem aBg (o:Obj) (ho:ai o): ∀k:Nat,Tl o 148 (PM (j6 k:dq S))
 |0=>dz fun t Z x h=>by cases h
 |k+1=>alG (CY (j6 k) k) ⟨Eh o ho (j6 k) (aBg o ho k) k,trivial⟩ func148 fun t Z x h=>alQ (by kernel_rfl) h
def GJ (hd:fK S):Rw S:=aj Ag xn fun t a_n Z=>hd t a_n (da Z)
def Wc (hd:fK S) (k:Nat):Fx S:=fp 68 [(39,Od k),(149,GJ hd)] [(1000003,aS [1,2] [(2,6)],ap 2 3),(5,aS [1,2,5,24,25,26] [(2,6)],ap 6 23),(11,aS [1,5,47,48,49] [],ap 7 47),(14,aS [1,5,47,48,49,54,55,56] [],ap 15 13103)] k f149 0
def aCe (t:Tm) (a_n:Int):St UU:=⟨[(1,(iI a_n)),(2,(pt 2))],[(2,bT t)],[],[]⟩
def azB (t:Tm) (a_n:Int) (v26 h:Int):St UU:=⟨[(1,(iI a_n)),(2,(pt 2)),(5,(iI h)),(24,(sT t.kids)),(25,(iI t.kids.length)),(26,(iI v26))],[(2,bT t)],[],[]⟩
def awH (a_n:Int) (t:Tm) (v49 h:Int):St UU:=⟨[(1,(iI a_n)),(5,(iI h)),(47,(sB t.sys)),(48,(iI t.sys.length)),(49,(iI v49))],[],[],[]⟩
def aCf (a_n:Int) (t:Tm) (v49:Int) (x4:(Br Tm)) (h j:Int):St UU:=⟨[(1,(iI a_n)),(5,(iI h)),(47,(sB t.sys)),(48,(iI t.sys.length)),(49,(iI v49)),(54,(sT x4.kids)),(55,(iI x4.kids.length)),(56,(iI j))],[],[],[]⟩
section
variable (hd:fK S) (k:Nat) (t:Tm) (a_n:Int) (Z:Out UU->Option S)
theorem aEq (v49 x4 Z2): ∀n j q,(Wc hd k).lp Z 14 [Z2] n (aCf a_n t v49 x4 j q)=nG hd k (da Z) (fun v49 h=>Z2 (awH a_n t v49 h)) a_n t v49 x4 n j q:=aL (xh hd k (da Z) a_n t v49 x4 (fun v49 h=>Z2 (awH a_n t v49 h)))
theorem aEp: ∀n v49 h,(Wc hd k).lp Z 11 [] n (awH a_n t v49 h)=ku hd k (da Z) a_n t n v49 h:=aL (fun own=>sE hd k (da Z) a_n t (fun v49 x4 j q=>nG hd k (da Z) own a_n t v49 x4 k j q) own) rfl (fun _=>rfl) fun r v49 h=>alQ (b:=sE hd k (da Z) a_n t (fun v49 x4 j q=>(Wc hd k).lp Z 14 [r] k (aCf a_n t v49 x4 j q)) (fun v49 h=>r (awH a_n t v49 h)) v49 h) (by kernel_rfl) (by simp only [aEq])
theorem aEo: ∀n v26 h,(Wc hd k).lp Z 5 [] n (azB t a_n v26 h)=nF hd k (da Z) t a_n n v26 h:=aL (fun own=>sD hd k (da Z) t a_n (fun v49 j=>ku hd k (da Z) a_n t k v49 j) own) rfl (fun _=>rfl) fun r v26 h=>alQ (b:=sD hd k (da Z) t a_n (fun v49 j=>(Wc hd k).lp Z 11 [] k (awH a_n t v49 j)) (fun v26 h=>r (azB t a_n v26 h)) v26 h) (by kernel_rfl) (by simp only [aEp])
theorem aEn: ∀n,(Wc hd k).jn Z 1000003 [] n (aCe t a_n)=Ak hd k (da Z) t a_n n:=gL (xg hd k (da Z) t a_n (fun v26 h=>nF hd k (da Z) t a_n k v26 h)) rfl (fun _=>rfl) (alQ (b:=xg hd k (da Z) t a_n (fun v26 h=>(Wc hd k).lp Z 5 [] k (azB t a_n v26 h))) (by kernel_rfl) (by simp only [aEo]))
end
theorem aBh (o:Obj) (ho:ai o): ∀k:Nat,Tl o 149 (GJ (gz k:fK S))
 |0=>dz fun t a_n Z x h=>by cases h
 |k+1=>alG (Wc (gz k) k) ⟨eX1 k ho,aBh o ho k,trivial⟩ func149 fun t a_n Z x h=>alQ (b:=BU (gz k) k (da Z) ((Wc (gz k) k).jn Z 1000003 [] k (aCe t a_n)) t a_n) (by kernel_rfl) (alQ (by simp only [aEn];rfl) h)
def oy:Rw S:=aj adD xn fun l Z=>aa k (pi k l) (da Z)
def Wd:Fx S:=fp 15 [(128,jz k)] [(2,aS [5,6,7] [],ap 4 5)] k f189 0
def aCg (l:List (List Cl)) (h:Int):St UU:=⟨[(5,(Hm l .none)),(6,(iI l.length)),(7,(iI h))],[],[],[]⟩
section
variable (k:Nat) (l:List (List Cl)) (Z:Out UU->Option S)
theorem aEr: ∀n h,(Wd k).lp Z 2 [] n (aCg l h)=qi k (da Z) l n h:=cF (w9 k (da Z) l)
end
theorem pM (ho:ai o):Tl o 189 (oy k:Rw S):=alG (Wd k) ⟨j_ k ho,trivial⟩ func189 fun l Z x h=>alQ (b:=HT k (da Z) (fun j=>(Wd k).lp Z 2 [] k (aCg l j)) l) (by kernel_rfl) (alQ (by simp only [aEr];rfl) (al h))
def GK:Rw S:=aj cn xn fun Z=>aa k (tK k) (ahY Z)
def CZ:Fx S:=fx 1 (fun _=>[]) (fun _=>false) [] [] k f191 false [true] 0
theorem Kp (ho:ai o):Tl o 191 (GK k:Rw S):=alG (CZ k) trivial func191 fun Z x h=>al9 h
def my:Rw S:=aj atV xn fun i Z=>aa k (pn k i) (b_ Z)
def We:Fx S:=fp 9 [] [] k f242 0
theorem nq (ho:ai o):Tl o 242 (my k:Rw S):=alG (We k) trivial func242 fun i Z x h=>al9 h
def Bd:Rw S:=aj adE xn fun s a_from a_by Z=>aa k (lx k s a_from a_by) (AO Z)
def C0:Fx S:=fp 46 [(242,my k)] [] k f220 0
theorem Ei (ho:ai o):Tl o 220 (Bd k:Rw S):=alG (C0 k) ⟨nq k ho,trivial⟩ func220 fun s a_from a_by Z x h=>al9 h
def GL:Rw S:=aj Li xn fun c a_from a_by Z=>aa k (yD k c a_from a_by) (ahZ Z)
def Wf:Fx S:=fp 42 [(198,OM k),(220,Bd k)] [] k f193 0
theorem Kq (ho:ai o):Tl o 193 (GL k:Rw S):=alG (Wf k) ⟨aaY k ho,Ei k ho,trivial⟩ func193 fun c a_from a_by Z x h=>al9 h
def GM:Rw S:=aj Lj ayS fun a_have c c0 c1 Z=>aa k (DN k a_have c c0 c1) (vA c0 c1 Z)
def Wg:Fx S:=fx 22 (fun _=>[]) (fun _=>false) [(193,GL k)] [] k f192 false [true,false] 2
theorem Kr (ho:ai o):Tl o 192 (GM k:Rw S):=alG (Wg k) ⟨Kq k ho,trivial⟩ func192 fun a_have c c0 c1 Z x h=>al9 h
def PO:Rw S:=aj aGz ayS fun l a_from c0 c1 Z=>aa k (yT k l a_from c0 c1) (N8 c0 c1 Z)
def Wi:Fx S:=fx 33 (fun|23=>[true,false]|_=>[]) (fun _=>false) [(192,GM k)] [(2,⟨[(1,an2 100001),(2,km),(13,km),(14,km),(15,km)],[(1000000,[km]),(1000001,[km])]⟩,ap 4 5)] k f190 false [] 2
def aCi (c0 c1:Int) (l:List Cl) (v1:List Cl) (h:Int):St UU:=⟨[(1,(.own 100001 0)),(2,(.func 192 [] [(pt 1000000),(pt 1000001)])),(13,(sC l)),(14,(iI l.length)),(15,(iI h))],[(1000000,bI c0),(1000001,bI c1)],[(100001,⟨0,ET.C,v1⟩)],[(100001,.wr)]⟩
section
variable (k:Nat) (l a_from:List Cl) (c0 c1:Int) (Z:Out UU->Option S)
theorem aEv: ∀n v1 h,(Wi k).lp Z 2 [] n (aCi c0 c1 l v1 h)=qf k (N8 c0 c1 Z) c0 c1 l n v1 h:=aL (w6 k (N8 c0 c1 Z) c0 c1 l)
end
theorem ab0 (ho:ai o):Tl o 190 (PO k:Rw S):=alG (Wi k) ⟨Kr k ho,trivial⟩ func190 fun l a_from c0 c1 Z x h=>alQ (b:=HQ k (N8 c0 c1 Z) (fun v1 j=>(Wi k).lp Z 2 [] k (aCi c0 c1 l v1 j)) l a_from c0 c1) (by kernel_rfl) (alQ (by simp only [aEv];rfl) (al h))
def PP:Rw S:=aj adG xn fun f a_from a_by Z=>aa k (jV k f a_from a_by) (aq1 Z)
def Wj:Fx S:=fx 31 (fun|21=>[false,true,false]|_=>[]) (fun _=>false) [(172,Pp k),(189,oy k),(190,PO k),(191,GK k)] [] k f159 false [] 0
theorem ab1 (ho:ai o):Tl o 159 (PP k:Rw S):=alG (Wj k) ⟨abB k ho,pM k ho,ab0 k ho,Kp k ho,trivial⟩ func159 fun f a_from a_by Z x h=>al9 h
def PQ:Rw S:=aj EY xn fun l_0 l_1 f a_from Z=>aa k (tN k l_0 l_1 f a_from) (ah0 Z)
def Wl:Fx S:=fp 31 [(159,PP k)] [] k f180 0
theorem ab2 (ho:ai o):Tl o 180 (PQ k:Rw S):=alG (Wl k) ⟨ab1 k ho,trivial⟩ func180 fun l_0 l_1 f a_from Z x h=>al9 h
def PR (hd:fJ S):Rw S:=aj adH xn fun l_0 l_1 t v d Z=>hd l_0 l_1 t v d (AP Z)
def C1 (hd:fJ S) (k:Nat):Fx S:=fp 128 [(39,Od k),(146,PR hd),(180,PQ k)] [(1000006,⟨[(2,km),(3,km),(4,km),(5,km),(8,km),(9,km)],[(4,[km,km]),(5,[km,km,km,km,km,km]),(8,[km,km,km,an2 200515,an2 200516,an2 200517]),(9,[km,km,km,km,an2 200580,an2 200581])]⟩,ap 3 7),(7,⟨[(2,km),(3,km),(4,km),(5,km),(8,km),(9,km),(55,km),(56,km),(57,km)],[(4,[km,km]),(5,[km,km,km,km,km,km]),(8,[km,km,km,an2 200515,an2 200516,an2 200517]),(9,[km,km,km,km,an2 200580,an2 200581])]⟩,ap 6 23),(16,⟨[(2,km),(3,km),(4,km),(8,km),(9,km),(14,km),(88,km),(89,km),(90,km)],[(4,[km,km]),(8,[km,km,km,an2 200515,an2 200516,an2 200517]),(9,[km,km,km,km,an2 200580,an2 200581])]⟩,ap 9 191),(20,⟨[(2,km),(3,km),(4,km),(8,km),(9,km),(14,km),(17,km),(88,km),(89,km),(90,km),(101,km),(102,km),(103,km)],[(4,[km,km]),(8,[km,km,km,an2 200515,an2 200516,an2 200517]),(9,[km,km,km,km,an2 200580,an2 200581]),(17,[km,an2 201089])]⟩,ap 19 183487)] k f146 0
def Ng (l_0 l_1:Int) (t:Tm) (r2:List Cl) (v d:Int) (h:Int):St UU:=⟨[(2,(iI v)),(3,(iI d)),(4,(pt 4)),(5,(pt 5)),(8,(pt 8)),(9,(pt 9))],[(4,.cells [(iI l_0),(iI l_1)]),(5,bT t),(8,.cells [(iI 0),(iI 0),arO,(.own 200515 0),(.own 200516 0),(.own 200517 0)]),(9,.cells [(iI t.kind),(iI h),(.str t.name),(sC r2),(.own 200580 0),(.own 200581 0)])],[(200581,arv),(200580,arI),(200517,arv),(200516,arI),(200515,arB)],[(200581,.wr),(200580,.wr),(200517,.wr),(200516,.wr),(200515,.wr)]⟩
def azD (l_0 l_1:Int) (t:Tm) (j:Int) (r2:List Cl) (v d:Int) (h:List Tm) (q:Int):St UU:=⟨[(2,(iI v)),(3,(iI d)),(4,(pt 4)),(5,(pt 5)),(8,(pt 8)),(9,(pt 9)),(55,(sT t.kids)),(56,(iI t.kids.length)),(57,(iI q))],[(4,.cells [(iI l_0),(iI l_1)]),(5,bT t),(8,.cells [(iI 0),(iI 0),arO,(.own 200515 0),(.own 200516 0),(.own 200517 0)]),(9,.cells [(iI t.kind),(iI j),(.str t.name),(sC r2),(.own 200580 0),(.own 200581 0)])],[(200581,arv),(200580,⟨0,ET.T,h⟩),(200517,arv),(200516,arI),(200515,arB)],[(200581,.wr),(200580,.wr),(200517,.wr),(200516,.wr),(200515,.wr)]⟩
def awJ (l_0 l_1:Int) (t:Tm) (x:Int) (r2:List Cl) (j:List Tm) (v d:Int) (q:List (Br Tm)) (h v90:Int):St UU:=⟨[(2,(iI v)),(3,(iI d)),(4,(pt 4)),(8,(pt 8)),(9,(pt 9)),(14,(iI h)),(88,(sB t.sys)),(89,(iI t.sys.length)),(90,(iI v90))],[(4,.cells [(iI l_0),(iI l_1)]),(8,.cells [(iI 0),(iI 0),arO,(.own 200515 0),(.own 200516 0),(.own 200517 0)]),(9,.cells [(iI t.kind),(iI x),(.str t.name),(sC r2),(.own 200580 0),(.own 200581 0)])],[(200581,⟨0,ET.B,q⟩),(200580,⟨0,ET.T,j⟩),(200517,arv),(200516,arI),(200515,arB)],[(200581,.wr),(200580,.wr),(200517,.wr),(200516,.wr),(200515,.wr)]⟩
def aCj (r12:List Cl) (l_0 l_1:Int) (t:Tm) (E:Int) (r2:List Cl) (q:List Tm) (x:List (Br Tm)) (z:(Br Tm)) (h v d v90:Int) (j:List Tm) (A:Int):St UU:=⟨[(2,(iI v)),(3,(iI d)),(4,(pt 4)),(8,(pt 8)),(9,(pt 9)),(14,(iI h)),(17,(pt 17)),(88,(sB t.sys)),(89,(iI t.sys.length)),(90,(iI v90)),(101,(sT z.kids)),(102,(iI z.kids.length)),(103,(iI A))],[(4,.cells [(iI l_0),(iI l_1)]),(8,.cells [(iI 0),(iI 0),arO,(.own 200515 0),(.own 200516 0),(.own 200517 0)]),(9,.cells [(iI t.kind),(iI E),(.str t.name),(sC r2),(.own 200580 0),(.own 200581 0)]),(17,.cells [(sC r12),(.own 201089 0)])],[(201089,⟨0,ET.T,j⟩),(200581,⟨0,ET.B,x⟩),(200580,⟨0,ET.T,q⟩),(200517,arv),(200516,arI),(200515,arB)],[(201089,.wr),(200581,.wr),(200580,.wr),(200517,.wr),(200516,.wr),(200515,.wr)]⟩
section
variable (hd:fJ S) (k:Nat) (l_0 l_1:Int) (t:Tm) (v d:Int) (Z:Out UU->Option S)
theorem aEy (r12 x r2 q j B h v90 Z2): ∀n z A,(C1 hd k).lp Z 20 [Z2] n (aCj r12 l_0 l_1 t x r2 q j B h v d v90 z A)=l7 hd k (AP Z) (fun j h v90=>Z2 (awJ l_0 l_1 t x r2 q v d j h v90)) r12 l_0 l_1 t x r2 q j B h v d v90 n z A:=aL (xe hd k (AP Z) r12 l_0 l_1 t x r2 q j B h v d v90 (fun j h v90=>Z2 (awJ l_0 l_1 t x r2 q v d j h v90)))
theorem aEx (x r2 q): ∀n j h v90,(C1 hd k).lp Z 16 [] n (awJ l_0 l_1 t x r2 q v d j h v90)=atX hd k (AP Z) l_0 l_1 t x r2 q v d n j h v90:=eW (fun own=>sA hd k (AP Z) l_0 l_1 t x r2 q v d (fun B j E h v90 z A=>l7 hd k (AP Z) own B l_0 l_1 t x r2 q j E h v d v90 k z A) own) rfl (fun _=>rfl) fun r j h v90=>alQ (b:=sA hd k (AP Z) l_0 l_1 t x r2 q v d (fun B j E h v90 z A=>(C1 hd k).lp Z 20 [r] k (aCj B l_0 l_1 t x r2 q j E h v d v90 z A)) (fun j h v90=>r (awJ l_0 l_1 t x r2 q v d j h v90)) j h v90) (by kernel_rfl) (by simp only [aEy])
theorem aEw (q r2): ∀n h x,(C1 hd k).lp Z 7 [] n (azD l_0 l_1 t q r2 v d h x)=auw hd k (AP Z) l_0 l_1 t q r2 v d n h x:=aL (fun own=>sz hd k (AP Z) l_0 l_1 t q r2 v d (fun h z j A=>atX hd k (AP Z) l_0 l_1 t q r2 h v d k z j A) own) rfl (fun _=>rfl) fun r h x=>alQ (b:=sz hd k (AP Z) l_0 l_1 t q r2 v d (fun h z j A=>(C1 hd k).lp Z 16 [] k (awJ l_0 l_1 t q r2 h v d z j A)) (fun h x=>r (azD l_0 l_1 t q r2 v d h x)) h x) (by kernel_rfl) (by simp only [aEx])
theorem YZ (r2): ∀n h,(C1 hd k).jn Z 1000006 [] n (Ng l_0 l_1 t r2 v d h)=uJ hd k (AP Z) l_0 l_1 t r2 v d n h:=nx (Da hd k (AP Z) l_0 l_1 t r2 v d (fun h j q=>auw hd k (AP Z) l_0 l_1 t h r2 v d k j q)) rfl (fun _=>rfl) (fun h=>alQ (b:=Da hd k (AP Z) l_0 l_1 t r2 v d (fun h j q=>(C1 hd k).lp Z 7 [] k (azD l_0 l_1 t h r2 v d j q)) h) (by kernel_rfl) (by simp only [aEw]))
end
theorem ayd (o:Obj) (ho:ai o): ∀k:Nat,Tl o 146 (PR (dk k:fJ S))
 |0=>dz fun l_0 l_1 t v d Z x h=>by cases h
 |k+1=>alG (C1 (dk k) k) ⟨eX1 k ho,ayd o ho k,ab2 k ho,trivial⟩ func146 fun l_0 l_1 t v d Z x h=>alQ (b:=HY (dk k) k (AP Z) (fun q j=>(C1 (dk k) k).jn Z 1000006 [] k (Ng l_0 l_1 t q v d j)) l_0 l_1 t v d) (by kernel_rfl) (alQ (by simp only [YZ];rfl) h)
def aC2:Rw S:=aj adI aDy fun c0 c1 c2 Z=>aa k (yW k c0 c1 c2) (ah1 c0 c1 c2 Z)
def Wm:Fx S:=fp 11 [(146,PR (dk k))] [] k f153 3
theorem pN (ho:ai o):Tl o 153 (aC2 k:Rw S):=alG (Wm k) ⟨ayd o ho k,trivial⟩ func153 fun c0 c1 c2 Z x h=>al9 h
def PS:Rw S:=aj aGA aDy fun t numbers c0 c1 c2 Z=>aa k (y7 k t numbers c0 c1 c2) (ah c0 c1 c2 Z)
def Wn:Fx S:=⟨⟨30,(fun _=>[]),(fun _=>false),km,fun|6=>true|7=>true|_=>false⟩,[(23,PK k),(153,aC2 k)],[(5,⟨[(2,km),(6,km),(7,km),(17,km),(18,km),(19,km)],[(1000000,[km]),(1000001,[km]),(1000002,[km,km,km,km,km,km]),(5000006,[km,km,km,an2 320200387,an2 320200388,an2 320200389]),(5000007,[km])]⟩,ap 5 11)],k,f144,false,[],3,some (o9 16 179 f179 k)⟩
def aCk (c0 c1:Int) (c2:Tm) (numbers:List Int) (h:Int):St UU:=⟨[(2,(.func 153 [] [(pt 1000000),(pt 1000001),(pt 1000002)])),(6,(pt 5000006)),(7,(pt 5000007)),(17,(la numbers .none)),(18,(iI numbers.length)),(19,(iI h))],[(1000000,bI c0),(1000001,bI c1),(1000002,bT c2),(5000006,.cells [(iI 0),(iI 0),arO,(.own 320200387 0),(.own 320200388 0),(.own 320200389 0)]),(5000007,bI 0)],[(320200389,arv),(320200388,arI),(320200387,arB)],[(320200389,.wr),(320200388,.wr),(320200387,.wr)]⟩
section
variable (k:Nat) (t:Tm) (numbers:List Int) (c0 c1:Int) (c2:Tm) (Z:Out UU->Option S)
theorem aEz: ∀n h,(Wn k).lp Z 5 [] n (aCk c0 c1 c2 numbers h)=nE k (ah c0 c1 c2 Z) c0 c1 c2 numbers n h:=cF (xd k (ah c0 c1 c2 Z) c0 c1 c2 numbers)
end
theorem ab4 (ho:ai o):Tl o 144 (PS k:Rw S):=BZ (Wn k) rfl (yn o func179 (by kernel_rfl)) ⟨abV k ho,pN k ho,trivial⟩ func144 (by kernel_rfl) fun t numbers c0 c1 c2 Z x h=>alQ (b:=BS k (ah c0 c1 c2 Z) (fun j=>(Wn k).lp Z 5 [] k (aCk c0 c1 c2 numbers j)) t numbers c0 c1 c2) (by kernel_rfl) (alQ (by simp only [aEz];rfl) (al h))
def vO:Rw S:=aj amR xn fun t vars dims Z=>aa k (lu k t vars dims) (ah2 Z)
def jQ:Fx S:=fp 18 [(144,PS k)] [] k f89 0
theorem azd (ho:ai o):Tl o 89 (vO k:Rw S):=alG (jQ k) ⟨ab4 k ho,trivial⟩ func89 fun t vars dims Z x h=>al9 h
def PT:Rw S:=aj ar9 xn fun t Z=>aa k (ze k t) (da Z)
def Wo:Fx S:=fp 6 [] [] k f182 0
theorem ab5 (ho:ai o):Tl o 182 (PT k:Rw S):=alG (Wo k) trivial func182 fun t Z x h=>al9 h
def PW (hd:gX S):Rw S:=aj adJ xn fun t a_n u vars dims Z=>hd t a_n u vars dims (AP Z)
def C2 (hd:gX S) (k:Nat):Fx S:=fp 137 [(39,Od k),(89,vO k),(151,PW hd),(182,PT k)] [(12,⟨[(1,km),(3,km),(4,km),(5,km),(7,km),(10,km),(13,km),(66,km),(67,km),(68,km)],[(5,[km,km,km,km,km,km]),(7,[km,km,km,km,km,km]),(10,[km,km,km,an2 200643,an2 200644,an2 200645]),(13,[km,km,km,an2 200835,an2 200836,an2 200837])]⟩,ap 6 23),(18,⟨[(1,km),(3,km),(4,km),(5,km),(7,km),(10,km),(13,km),(97,km),(98,km),(99,km)],[(5,[km,km,km,km,km,km]),(7,[km,km,km,km,km,km]),(10,[km,km,km,an2 200643,an2 200644,an2 200645]),(13,[km,km,km,an2 200835,an2 200836,an2 200837])]⟩,ap 7 47),(22,⟨[(1,km),(3,km),(4,km),(5,km),(7,km),(10,km),(13,km),(20,km),(97,km),(98,km),(99,km),(108,km),(109,km),(110,km)],[(5,[km,km,km,km,km,km]),(7,[km,km,km,km,km,km]),(10,[km,km,km,an2 200643,an2 200644,an2 200645]),(13,[km,km,km,an2 200835,an2 200836,an2 200837]),(20,[an2 201280,an2 201281])]⟩,ap 17 45871)] k f151 0
def Nj (t u:Tm) (a_n vars dims:Int) (h:List Tm) (v68:Int):St UU:=⟨[(1,(iI a_n)),(3,(iI vars)),(4,(iI dims)),(5,(pt 5)),(7,(pt 7)),(10,(pt 10)),(13,(pt 13)),(66,(sT t.kids)),(67,(iI t.kids.length)),(68,(iI v68))],[(5,bT t),(7,bT u),(10,.cells [(iI 0),(iI 0),arO,(.own 200643 0),(.own 200644 0),(.own 200645 0)]),(13,.cells [(iI t.kind),(iI 0),(.str t.name),(.own 200835 0),(.own 200836 0),(.own 200837 0)])],[(200837,arv),(200836,⟨0,ET.T,h⟩),(200835,⟨0,ET.C,t.r⟩),(200645,arv),(200644,arI),(200643,arB)],[(200837,.wr),(200836,.wr),(200835,.wr),(200645,.wr),(200644,.wr),(200643,.wr)]⟩
def awK (t:Tm) (h:List Tm) (u:Tm) (a_n vars dims:Int) (j:List (Br Tm)) (q:Int):St UU:=⟨[(1,(iI a_n)),(3,(iI vars)),(4,(iI dims)),(5,(pt 5)),(7,(pt 7)),(10,(pt 10)),(13,(pt 13)),(97,(sB t.sys)),(98,(iI t.sys.length)),(99,(iI q))],[(5,bT t),(7,bT u),(10,.cells [(iI 0),(iI 0),arO,(.own 200643 0),(.own 200644 0),(.own 200645 0)]),(13,.cells [(iI t.kind),(iI 0),(.str t.name),(.own 200835 0),(.own 200836 0),(.own 200837 0)])],[(200837,⟨0,ET.B,j⟩),(200836,⟨0,ET.T,h⟩),(200835,⟨0,ET.C,t.r⟩),(200645,arv),(200644,arI),(200643,arB)],[(200837,.wr),(200836,.wr),(200835,.wr),(200645,.wr),(200644,.wr),(200643,.wr)]⟩
def aCl (t:Tm) (h:List Tm) (j:List (Br Tm)) (z:(Br Tm)) (u:Tm) (a_n vars dims A:Int) (q:List Tm) (x:Int):St UU:=⟨[(1,(iI a_n)),(3,(iI vars)),(4,(iI dims)),(5,(pt 5)),(7,(pt 7)),(10,(pt 10)),(13,(pt 13)),(20,(pt 20)),(97,(sB t.sys)),(98,(iI t.sys.length)),(99,(iI A)),(108,(sT z.kids)),(109,(iI z.kids.length)),(110,(iI x))],[(5,bT t),(7,bT u),(10,.cells [(iI 0),(iI 0),arO,(.own 200643 0),(.own 200644 0),(.own 200645 0)]),(13,.cells [(iI t.kind),(iI 0),(.str t.name),(.own 200835 0),(.own 200836 0),(.own 200837 0)]),(20,.cells [(.own 201280 0),(.own 201281 0)])],[(201281,⟨0,ET.T,q⟩),(201280,⟨0,ET.C,z.face⟩),(200837,⟨0,ET.B,j⟩),(200836,⟨0,ET.T,h⟩),(200835,⟨0,ET.C,t.r⟩),(200645,arv),(200644,arI),(200643,arB)],[(201281,.wr),(201280,.wr),(200837,.wr),(200836,.wr),(200835,.wr),(200645,.wr),(200644,.wr),(200643,.wr)]⟩
section
variable (hd:gX S) (k:Nat) (t:Tm) (a_n:Int) (u:Tm) (vars dims:Int) (Z:Out UU->Option S)
theorem aEB (j h A q Z1): ∀n x z,(C2 hd k).lp Z 22 [Z1] n (aCl t j h A u a_n vars dims q x z)=avf hd k (AP Z) (fun h q=>Z1 (awK t j u a_n vars dims h q)) t j h A u a_n vars dims q n x z:=aL (xj hd k (AP Z) t j h A u a_n vars dims q (fun h q=>Z1 (awK t j u a_n vars dims h q)))
theorem aEA (j): ∀n h q,(C2 hd k).lp Z 18 [] n (awK t j u a_n vars dims h q)=kw hd k (AP Z) t j u a_n vars dims n h q:=aL (fun own=>sG hd k (AP Z) t j u a_n vars dims (fun h A q x z=>avf hd k (AP Z) own t j h A u a_n vars dims q k x z) own) rfl (fun _=>rfl) fun r h q=>alQ (b:=sG hd k (AP Z) t j u a_n vars dims (fun h A q x z=>(C2 hd k).lp Z 22 [r] k (aCl t j h A u a_n vars dims q x z)) (fun h q=>r (awK t j u a_n vars dims h q)) h q) (by kernel_rfl) (by simp only [aEB])
theorem Y4: ∀n h v68,(C2 hd k).lp Z 12 [] n (Nj t u a_n vars dims h v68)=qj hd k (AP Z) t u a_n vars dims n h v68:=aL (fun own=>sF hd k (AP Z) t u a_n vars dims (fun h j q=>kw hd k (AP Z) t h u a_n vars dims k j q) own) rfl (fun _=>rfl) fun r h v68=>alQ (b:=sF hd k (AP Z) t u a_n vars dims (fun h j q=>(C2 hd k).lp Z 18 [] k (awK t h u a_n vars dims j q)) (fun h v68=>r (Nj t u a_n vars dims h v68)) h v68) (by kernel_rfl) (by simp only [aEA])
end
theorem aBj (o:Obj) (ho:ai o): ∀k:Nat,Tl o 151 (PW (gA k:gX S))
 |0=>dz fun t a_n u vars dims Z x h=>by cases h
 |k+1=>alG (C2 (gA k) k) ⟨eX1 k ho,azd k ho,aBj o ho k,ab5 k ho,trivial⟩ func151 fun t a_n u vars dims Z x h=>alQ (b:=H2 (gA k) k (AP Z) (fun j v68=>(C2 (gA k) k).lp Z 12 [] k (Nj t u a_n vars dims j v68)) t a_n u vars dims) (by kernel_rfl) (alQ (by simp only [Y4];rfl) h)
def Be (hd:dp S):Rw S:=aj ar9 xn fun t Z=>hd t (da Z)
def PY (hd:dp S) (k:Nat):Rw S:=aj Lh fh fun a_k p h c0 Z=>aa k (uf hd k a_k p h c0) (N7 Z)
def Wq (hd:dp S) (k:Nat):Fx S:=fp 12 [(152,Be hd)] [] k f183 1
theorem ab8 (o:Obj) (ho:ai o) (hd:dp S) (Hd:Tl o 152 (Be hd)) (k:Nat):Tl o 183 (PY hd k:Rw S):=alG (Wq hd k) ⟨Hd,trivial⟩ func183 fun a_k p j c0 Z x h=>al9 h
def aC3 (hd:dp S) (k:Nat):Rw S:=aj E0 fh fun t c0 Z=>aa k (DZ hd k t c0) (N7 Z)
def Wr (hd:dp S) (k:Nat):Fx S:=fp 60 [(39,Od k),(183,PY hd k)] [(2,aS [1,2,15,16,17] [(2,6),(1000000,1)],ap 4 5),(12,aS [1,9,40,41,42] [(1000000,1)],ap 7 47),(15,aS [1,9,40,41,42,47,48,49] [(1000000,1)],ap 15 13103)] k f74 1
def azF (t:Tm) (h v17:Int):St UU:=⟨[(1,(.func 183 [] [(pt 1000000)])),(2,(pt 2)),(15,(sT t.kids)),(16,(iI t.kids.length)),(17,(iI v17))],[(2,bT t),(1000000,bI h)],[],[]⟩
def awM (t:Tm) (e0_0' v42 h:Int):St UU:=⟨[(1,(.func 183 [] [(pt 1000000)])),(9,(iI h)),(40,(sB t.sys)),(41,(iI t.sys.length)),(42,(iI v42))],[(1000000,bI e0_0')],[],[]⟩
def aCn (t:Tm) (v42:Int) (x4:(Br Tm)) (h:Int) (e0_0'' v49:Int):St UU:=⟨[(1,(.func 183 [] [(pt 1000000)])),(9,(iI h)),(40,(sB t.sys)),(41,(iI t.sys.length)),(42,(iI v42)),(47,(sT x4.kids)),(48,(iI x4.kids.length)),(49,(iI v49))],[(1000000,bI e0_0'')],[],[]⟩
section
variable (hd:dp S) (k:Nat) (t:Tm) (c0:Int) (Z:Out UU->Option S)
theorem aEH (v42 x4 h Z1): ∀n e0_0'' v49,(Wr hd k).lp Z 15 [Z1] n (aCn t v42 x4 h e0_0'' v49)=n5 hd k (N7 Z) (fun e0_0' v42 h=>Z1 (awM t e0_0' v42 h)) t v42 x4 h n e0_0'' v49:=aL (yk hd k (N7 Z) t v42 x4 h (fun e0_0' v42 h=>Z1 (awM t e0_0' v42 h)))
theorem aEG: ∀n e0_0' v42 h,(Wr hd k).lp Z 12 [] n (awM t e0_0' v42 h)=kN hd k (N7 Z) t n e0_0' v42 h:=eW (fun own=>tu hd k (N7 Z) t (fun v42 x4 h e0_0'' v49=>n5 hd k (N7 Z) own t v42 x4 h k e0_0'' v49) own) rfl (fun _=>rfl) fun r e0_0' v42 h=>alQ (b:=tu hd k (N7 Z) t (fun v42 x4 h e0_0'' v49=>(Wr hd k).lp Z 15 [r] k (aCn t v42 x4 h e0_0'' v49)) (fun e0_0' v42 h=>r (awM t e0_0' v42 h)) e0_0' v42 h) (by kernel_rfl) (by simp only [aEH])
theorem aEF: ∀n j v17,(Wr hd k).lp Z 2 [] n (azF t j v17)=av7 hd k (N7 Z) t n j v17:=aL (fun own=>tt hd k (N7 Z) t (fun e0_0' v42 h=>kN hd k (N7 Z) t k e0_0' v42 h) own) rfl (fun _=>rfl) fun r j v17=>alQ (b:=tt hd k (N7 Z) t (fun e0_0' v42 h=>(Wr hd k).lp Z 12 [] k (awM t e0_0' v42 h)) (fun j v17=>r (azF t j v17)) j v17) (by kernel_rfl) (by simp only [aEG])
end
theorem Ks (o:Obj) (ho:ai o) (hd:dp S) (Hd:Tl o 152 (Be hd)) (k:Nat):Tl o 74 (aC3 hd k:Rw S):=alG (Wr hd k) ⟨eX1 k ho,ab8 o ho hd Hd k,trivial⟩ func74 fun t c0 Z x h=>alQ (b:=IX hd k (N7 Z) (fun j v17=>(Wr hd k).lp Z 2 [] k (azF t j v17)) t c0) (by kernel_rfl) (alQ (by simp only [aEF];rfl) (al h))
def Wp (hd:dp S) (k:Nat):Fx S:=fp 9 [(74,aC3 hd k)] [] k f152 0
theorem aBk (o:Obj) (ho:ai o): ∀k:Nat,Tl o 152 (Be (j5 k:dp S))
 |0=>dz fun t Z x h=>by cases h
 |k+1=>alG (Wp (j5 k) k) ⟨Ks o ho (j5 k) (aBk o ho k) k,trivial⟩ func152 fun t Z x h=>alQ (by kernel_rfl) h
def PZ:Rw S:=aj Ai xn fun t a_n u Z=>aa k (zd k t a_n u) (ah2 Z)
def Ws:Fx S:=⟨⟨49,(fun _=>[]),(fun _=>false),km,fun|6=>true|7=>true|_=>false⟩,[(23,PK k),(148,PM (j6 k)),(149,GJ (gz k)),(151,PW (gA k)),(152,Be (j5 k))],[],k,f88,false,[],0,some (o9 16 150 f150 k)⟩
theorem ab9 (ho:ai o):Tl o 88 (PZ k:Rw S):=BZ (Ws k) rfl (yn o func150 (by kernel_rfl)) ⟨abV k ho,aBg o ho k,aBh o ho k,aBj o ho k,aBk o ho k,trivial⟩ func88 (by kernel_rfl) fun t a_n u Z x h=>al9 h
def P0:Rw S:=aj adK fh fun t a_e c0 Z=>aa k (asH k t a_e c0) (AQ Z)
def Wt:Fx S:=fp 23 [] [] k f83 1
theorem ab_ (ho:ai o):Tl o 83 (P0 k:Rw S):=alG (Wt k) trivial func83 fun t a_e c0 Z x h=>al9 h
def P1:Rw S:=aj awC fh fun t u c0 Z=>aa k (za k t u c0) (AQ Z)
def C3:Fx S:=fp 18 [(83,P0 k),(84,ox k),(88,PZ k)] [] k f55 1
theorem aca (ho:ai o):Tl o 55 (P1 k:Rw S):=alG (C3 k) ⟨ab_ k ho,atg k ho,ab9 k ho,trivial⟩ func55 fun t u c0 Z x h=>al9 h
def Bf:Rw S:=aj adL xn fun b Z=>aa k (cW k b) (F9 Z)
def Wu:Fx S:=fp 15 [] [] k f177 0
theorem Ek (ho:ai o):Tl o 177 (Bf k:Rw S):=alG (Wu k) trivial func177 fun b Z x h=>al9 h
def vP:Rw S:=aj E1 xn fun s Z=>aa k (cP k s) (da Z)
def Wv:Fx S:=fp 19 [(177,Bf k)] [(2,aS [0,1,7,8] [],ap 4 5)] k f176 0
def aCo (s:List (Br Tm)) (h:Int):St UU:=⟨[(0,(sB s)),(1,(.func 177 [] [])),(7,(iI s.length)),(8,(iI h))],[],[],[]⟩
section
variable (k:Nat) (s:List (Br Tm)) (Z:Out UU->Option S)
theorem aEI: ∀n h,(Wv k).lp Z 2 [] n (aCo s h)=av4 k (da Z) s n h:=cF (cm k (da Z) s)
end
theorem zO (ho:ai o):Tl o 176 (vP k:Rw S):=alG (Wv k) ⟨Ek k ho,trivial⟩ func176 fun s Z x h=>alQ (b:=aAn k (da Z) (fun j=>(Wv k).lp Z 2 [] k (aCo s j)) s) (by kernel_rfl) (alQ (by simp only [aEI];rfl) (al h))
def P2:Rw S:=aj Lk xn fun l Z=>aa k (cS k l) (da Z)
def Ww:Fx S:=fp 5 [(176,vP k)] [] k f135 0
theorem acb (ho:ai o):Tl o 135 (P2 k:Rw S):=alG (Ww k) ⟨zO k ho,trivial⟩ func135 fun l Z x h=>al9 h
def Bg:Rw S:=aj cn xn fun Z=>aa k (au3 k) (cM Z)
def Wx:Fx S:=fp 3 [] [] k f160 0
theorem Em (ho:ai o):Tl o 160 (Bg k:Rw S):=alG (Wx k) trivial func160 fun Z x h=>al9 h
def P3:Rw S:=aj lS xn fun s i Z=>aa k (i_ k s i) (b_ Z)
def Wy:Fx S:=fp 16 [(229,PE k)] [] k f232 0
theorem acd (ho:ai o):Tl o 232 (P3 k:Rw S):=alG (Wy k) ⟨abQ k ho,trivial⟩ func232 fun s i Z x h=>al9 h
def P4:Rw S:=aj uG xn fun a_x Z=>aa k (JH k a_x) (da Z)
def Wz:Fx S:=fp 21 [] [] k f255 0
theorem ace (ho:ai o):Tl o 255 (P4 k:Rw S):=alG (Wz k) trivial func255 fun a_x Z x h=>al9 h
def P5:Rw S:=aj uG xn fun s Z=>aa k (lw k s) (da Z)
def WA:Fx S:=fp 6 [(255,P4 k)] [] k f231 0
theorem acf (ho:ai o):Tl o 231 (P5 k:Rw S):=alG (WA k) ⟨ace k ho,trivial⟩ func231 fun s Z x h=>al9 h
def P6:Rw S:=aj atV xn fun i Z=>aa k (yE k i) (F9 Z)
def aDC:Fx S:=fp 7 [(231,P5 k),(232,P3 k)] [] k f207 0
theorem acg (ho:ai o):Tl o 207 (P6 k:Rw S):=alG (aDC k) ⟨acf k ho,acd k ho,trivial⟩ func207 fun i Z x h=>al9 h
def P7:Rw S:=aj aBu xn fun t i a_r Z=>aa k (DM k t i a_r) (da Z)
def WC:Fx S:=fp 21 [(23,PK k),(128,jz k),(207,P6 k)] [] k f185 0
theorem ach (ho:ai o):Tl o 185 (P7 k:Rw S):=alG (WC k) ⟨abV k ho,j_ k ho,acg k ho,trivial⟩ func185 fun t i a_r Z x h=>al9 h
def vQ:Rw S:=aj adM awY fun c0 c1 Z=>aa k (DG k c0 c1) (gR c0 c1 Z)
def WD:Fx S:=fp 6 [] [] k f208 2
theorem zP (ho:ai o):Tl o 208 (vQ k:Rw S):=alG (WD k) trivial func208 fun c0 c1 Z x h=>al9 h
def GO:Rw S:=aj adO awY fun c0 c1 Z=>aa k (DH k c0 c1) (ah3 c0 c1 Z)
def WE:Fx S:=fp 6 [] [] k f208 2
theorem Kt (ho:ai o):Tl o 208 (GO k:Rw S):=alG (WE k) trivial func208 fun c0 c1 Z x h=>al9 h
def P8:Rw S:=aj adP xn fun i a_r Z=>aa k (DF k i a_r) (N9 Z)
def WF:Fx S:=fp 12 [(208,ol (uy adM awY) (vQ k) (GO k))] [] k f186 0
theorem aci (ho:ai o):Tl o 186 (P8 k:Rw S):=alG (WF k) ⟨vw (zP k ho) (Kt k ho),trivial⟩ func186 fun i a_r Z x h=>al9 h
end
end Go.Proofs.YtgmmefmmnakbpaaGreatDoor
