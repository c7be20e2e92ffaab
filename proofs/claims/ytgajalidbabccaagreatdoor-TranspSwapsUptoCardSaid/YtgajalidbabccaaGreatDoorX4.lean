/- Part 4 of a proof: the sources, with their names and remarks, lie in wip/. -/
import Derived.Test.YtgajalidbabccaaGreatDoorX3
import Derived.Test.YtgajalidbabccaaGreatDoorRows
import Derived.ProofKit
import Derived.OpenShut
import Derived.ChangeArms
import Derived.Deep.Slices
import Derived.Shelf.SlSortCmp.NoneTotal
import Derived.Ground.SlsfProg
import Derived.Test.YtgajalidbabccaaGreatDoorProg
import Derived.Shelf.Spec.TrailingZeros
import Derived.RangeFuncBound
import Derived.RangeFuncLeaves
import Derived.RangeFuncOwn
import Derived.OwnWalkIn
import Derived.TacticsInMore
import Derived.LoopNIn
import Derived.LoopIn
import Derived.Maps.RangeWalk
import Derived.Maps.AppendAt
import Derived.Test.YtgajalidbabccaaGreatDoorCards
import Derived.Test.YtgajalidbabccaaGreatDoorTie
import Derived.WalkKit
import Derived.ReadAgain
import Derived.Deep.DeepHandedRow
import Derived.Lib.LaidTab
namespace Go.Proofs.YtgajalidbabccaaGreatDoor
open Go PI
set_option linter.unusedVariables false
set_option linter.unusedSimpArgs false
set_option maxRecDepth 20000
variable {S:Type} {k:Nat}
def jB (c:Cl):Bool:= !bn c
def cZ (l:List Cl):List Cl:=l.filter jB
def ck (f:List Cl):Bool:=a8 f&&f.all fun c=> !bn c
def RFa (f:List Cl):Prop:=RF f∧ ∀c∈f,bn c=false
theorem ml {f:List Cl} (h:ao f):ck f=true↔RFa f:=by
 grind [ck,RFa,eH]
theorem RFa.right {f:List Cl} (h:RFa f):ck f=true:=(ml h.1.2).2 h
theorem Gl {l:List Cl} (h: ∀c∈l,bn c=false):cZ l=l:=List.filter_eq_self.2 fun c hc=>by grind [jB]
theorem Ae {l:List Cl} {c:Cl} (h:c∈cZ l):c∈l∧bn c=false:=by
 have:=List.mem_filter.1 h
 grind [jB]
theorem Gn {l:List Cl} (h:ao l):ao (cZ l):=fun c hc=>h c (Ae hc).1
theorem IZ {l:List Cl} (hl:ao l) (hc: ∀c∈l,bn c=false) (h:(aW l).2=0):RFa (aW l).1:=by
 refine ⟨oq hl h,fun c hcm=> ?_⟩
 grind [aW,mem_mins]
theorem DM:RFa []:=⟨oL,fun c hc=>by cases hc⟩
theorem yd {c:Cl} (h:RC c) (h':bn c=false):RFa [c]:=⟨gy h,fun d hd=>by grind⟩
theorem Gm (l:List Cl):(cZ l).length≤l.length:=List.length_filter_le _ _
theorem aca (hk:Fu k) (ret:Int→Option S) {l:List Cl} (hl:ao l) (hlen:l.length<2147483648):
  ∀ (r p:List Cl) (m:Nat),l=p++r→r.length<m→ ∃v:Int,decide (v≥0)=r.any bn∧oi k ret l m (p.length:Int)=ret v:=by
 intro r
 induction r with
 |nil=>
  intro p m h hm
  obtain ⟨m,rfl,hm'⟩:=ak hm
  exact ⟨-1,rfl,by grind [oi,uE,ai]⟩
 |cons x r ih=>
  intro p m h hm
  obtain ⟨m,rfl,hm'⟩:=ak hm
  obtain ⟨e1,e2,e3,e4⟩:=az h (by omega)
  have hx:aG x:=hl x (by grind)
  obtain ⟨v,hv,hr⟩:=ih (p++[x]) m e4 hm'
  grind [oi,uE,aj,al,Oz,ai]
theorem DZ (hk:Fu k) {f:List Cl} (hf:ao f) (hlen:f.length<2147483648) (ret:Bool→Option S):iA k f ret=ret (ck f):=by
 obtain ⟨v,hv,hr⟩:=aca hk (fun r1:Int=>(fun r2:Bool=>ret (!r2)) (decide (r1≥0))) hf hlen f [] k rfl (by omega)
 simp only [iA,Pu,al hk,oR hk hf hlen,AO,QE,AQ,Fi]
 grind [ck,a8,aj,ai]
theorem acM (hk:Fu k) (ret:Bool→Option S) {l:List Cl} (hl: ∀c∈l,RC c) (hlen:l.length<2147483648):
  ∀ (r p:List Cl) (m:Nat),l=p++r→r.length<m→n1 k ret l m (p.length:Int)=ret (r.all fun c=> !bn c):=by
 intro r
 induction r with
 |nil=>
  grind [ak,n1,uk,ai]
 |cons x r ih=>
  intro p m h hm
  obtain ⟨m,rfl,hm'⟩:=ak hm
  obtain ⟨e1,e2,e3,e4⟩:=az h (by omega)
  have hx:RC x:=hl x (by grind)
  grind [n1,uk,aj,al,OL,ai]
theorem mr (hk:Fu k) {f:List Cl} (hf:ao f) (hlen:f.length<2147483648) (ret:Bool→Option S):gR k f ret=ret (ck f):=by
 simp only [gR,E2,al hk,fJ hk hf hlen]
 unfold ck
 cases hr:a8 f with
 |true=>
  have h:=(eH hf).1 hr
  rw [Bool.not_true,ai,Bool.true_and]
  exact acM hk ret (fun c hc=>h.rc hc) hlen f [] k rfl (by omega)
 |false=>rfl
def fF (l:List Cl):List Cl×Int:=aW (cZ l)
def eC (f:List Cl):List Cl×Int:=if a8 f then fF f else ([],2)
def eZ (f:List Cl):List Cl×Int:=if a8 f then if (cu f).2=0 then fF (cu f).1 else ([],(cu f).2) else ([],2)
theorem B_ {l:List Cl} (hl:ao l) (h:(fF l).2=0):RFa (fF l).1:=IZ (Gn hl) (fun c hc=>(Ae hc).2) h
theorem CN {f:List Cl} (h:(eC f).2=0) (hf:ao f):RFa (eC f).1:=by
 grind [eC,B_]
theorem CO {f:List Cl} (h:(eZ f).2=0) (hf:ao f):RFa (eZ f).1:=by
 unfold eZ at h ⊢
 split
 ·next hr=>
  rw [if_pos hr] at h
  split
  ·next h0=>rw [if_pos h0] at h;exact B_ (g9 h0).2 h
  grind
 grind
theorem OD (hk:Fu k) {c:Cl} (hc:aG c) (ret:Cl×Bool→Option S):qn k c ret=ret (c,jB c):=by
 simp only [qn,Pv,al hk,Oz hk hc];rfl
theorem acv (hk:Fu k) (ret:List Cl→Option S) {l:List Cl} (hl:ao l) (hlen:l.length<2147483648):
  ∀ (r p:List Cl) (m:Nat) (o:List Cl),l=p++r→r.length<m→o.length+r.length<4294967296→nG k ret l m (p.length:Int) o=ret (o++cZ r):=by
 intro r
 induction r with
 |nil=>
  grind [ak,nG,tL,ai,cZ]
 |cons x r ih=>
  intro p m o h hm ho
  obtain ⟨m,rfl,hm'⟩:=ak hm
  obtain ⟨e1,e2,e3,e4⟩:=az h (by omega)
  have hx:aG x:=hl x (by grind)
  simp only [List.length_cons] at ho
  simp only [nG,tL,e1,aj,e2,Option.bind_some,al hk,OD hk hx,e3]
  grind [aj,aM,cZ,ai]
theorem agC (hk:Fu k) {l:List Cl} (hl:ao l) (hlen:l.length<2147483648) (ret:List Cl→Option S):u9 k l ret=ret (cZ l):=by
 simp only [u9,Eu]
 have:=acv hk ret hl hlen l [] k [] rfl (by omega) (by grind)
 grind
theorem OE (hk:Fu k) {f:List Cl} (hf:ao f) (hlen:f.length<2147483648) (ret:List Cl×Int→Option S):qm k f ret=ret (eC f):=by
 have:=Gm f
 simp only [qm,Ps,al hk,oR hk hf hlen,agC hk hf hlen,jr hk (Gn hf) (show (cZ f).length<2147483648 by omega)]
 unfold eC
 cases a8 f with
 |true=>rfl
 |false=>rfl
theorem agy (hk:Fu k) {f:List Cl} (hf:ao f) (hlen:f.length<2147483648) (ret:List Cl×Int→Option S):u5 k f ret=ret (eZ f):=by
 simp only [u5,Pt,al hk,agv hk hf hlen,bR]
 unfold eZ
 cases a8 f with
 |true=>
  rw [if_pos rfl,if_pos rfl]
  by_cases h0:(cu f).2=0
  ·have hr:=g9 h0
   rw [decide_eq_true h0,Bool.not_true,ai,if_pos h0,OE hk hr.2 hr.lt]
   unfold eC
   rw [if_pos hr.right]
  grind [aj]
 |false=>
  rfl
theorem acN (hk:Fu k) (ret:List Cl×Int→Option S) {l:List Cl} (hl: ∀c∈l,RC c) (hlen:l.length<1073741824):
  ∀ (r p:List Cl) (m:Nat) (o:List Cl),l=p++r→r.length<m→ao o→o.length+r.length<2147483648→n4 k ret l m o (p.length:Int)=ret (aW (o++cZ r)):=by
 intro r
 induction r with
 |nil=>
  grind [ak,n4,ul,ai,cZ,al,mq]
 |cons x r ih=>
  intro p m o h hm hok ho
  obtain ⟨m,rfl,hm'⟩:=ak hm
  obtain ⟨e1,e2,e3,e4⟩:=az h (by omega)
  have hx:RC x:=hl x (by grind)
  simp only [List.length_cons] at ho
  simp only [n4,ul,e1,aj,e2,Option.bind_some,al hk,OL hk hx,e3]
  cases hb:bn x with
  |false=>
   rw [Bool.not_false,aj,aM (by grind),ih (p++[x]) m (o++[x]) e4 hm' (d_ hok fun c hc=>by simp at hc;subst hc;exact hx.ok) (by grind)]
   grind [cZ,jB]
  |true=>
   grind [ai,cZ,jB]
theorem yn (hk:Fu k) {l:List Cl} (hl: ∀c∈l,RC c) (hlen:l.length<1073741824) (ret:List Cl×Int→Option S):lg k l ret=ret (fF l):=by
 simp only [lg,E3]
 have:=acN hk ret hl hlen l [] k [] rfl (by omega) (fun c hc=>by cases hc) (by grind)
 grind [fF]
theorem agU (hk:Fu k) {f:List Cl} (hf:ao f) (hlen:f.length<1073741824) (ret:List Cl×Int→Option S):vz k f ret=ret (eC f):=by
 simp only [vz,Qk,al hk,fJ hk hf (show f.length<2147483648 by omega)]
 unfold eC
 cases hr:a8 f with
 |true=>
  have h:=(eH hf).1 hr
  rw [Bool.not_true,ai,if_pos rfl,yn hk (fun c hc=>h.rc hc) hlen]
 |false=>rfl
theorem agV (hk:Fu k) {f:List Cl} (hf:ao f) (hlen:f.length<2147483648) (ret:List Cl×Int→Option S):qH k f ret=ret (eZ f):=by
 simp only [qH,Ql,al hk,OS hk hf hlen,bR]
 unfold eZ
 cases a8 f with
 |true=>
  rw [if_pos rfl,if_pos rfl]
  by_cases h0:(cu f).2=0
  ·have hr:=g9 h0
   rw [decide_eq_true h0,Bool.not_true,ai,if_pos h0,yn hk (fun c hc=>hr.rc hc) (by have:=hr.len;omega)]
  grind [aj]
 |false=>
  rfl
def dU (f g:List Cl):List Cl×Int:=fF (meets f g)
def BE (f g:List Cl):List Cl×Int:=if ck f&&ck g then ci f g else ([],2)
theorem agA (hk:Fu k) {f g:List Cl} (hf:ao f) (hg:ao g) (h1:f.length<1073741824) (h2:g.length<1073741824) (ret:List Cl×Int→Option S):qu k f g ret=ret (ci f g):=by
 simp only [qu,Px,al hk,List.nil_append]
 rw [aM (by grind),aM (by omega),jr hk (d_ hf hg) (by grind)]
 rfl
theorem aa0 {f g:List Cl} (hf: ∀c∈f,bn c=false) (hg: ∀c∈g,bn c=false):fF (f++g)=ci f g:=by
 grind [fF,ci,Gl]
theorem wA {f g:List Cl} (hf:RFa f) (hg:RFa g) (h:(ci f g).2=0):RFa (ci f g).1:=
 IZ (d_ hf.1.2 hg.1.2) (fun c hc=>by
  rcases List.mem_append.1 hc with h|h
  ·exact hf.2 c h
  ·exact hg.2 c h) h
theorem agS (hk:Fu k) {f g:List Cl} (hf:ao f) (hg:ao g) (h1:f.length<268435456) (h2:g.length<268435456) (ret:List Cl×Int→Option S):fm k f g ret=ret (BE f g):=by
 simp only [fm,Qj,al hk,mr hk hf (show f.length<2147483648 by omega),mr hk hg (show g.length<2147483648 by omega),List.nil_append]
 unfold BE
 cases hr:ck f with
 |true=>
  rw [Bool.not_true,ai,Bool.true_and]
  cases hr2:ck g with
  |true=>
   have hf':=(ml hf).1 hr
   have hg':=(ml hg).1 hr2
   rw [Bool.not_true,ai,if_pos rfl,aM (by grind),aM (by omega),yn hk (fun c hc=>by
    rcases List.mem_append.1 hc with h|h
    ·exact hf'.1.rc h
    ·exact hg'.1.rc h) (by grind),aa0 hf'.2 hg'.2]
  |false=>rfl
 |false=>rfl
theorem agx (hk:Fu k) {b c:Cl} (hb:aG b) (hc:aG c) (ret:Cl×Bool→Option S):u_ k b c ret=ret (dD c b,jB (dD c b)):=by
 simp_all [u_,Pz,al,DX,OD,wY]
theorem acw (hk:Fu k) (ret:List Cl→Option S) {c:Cl} (hc:aG c) {l:List Cl} (hl:ao l) (hlen:l.length<2147483648):
  ∀ (r p:List Cl) (m:Nat) (o:List Cl),l=p++r→r.length<m→o.length+r.length<4294967296→nF k ret c l m (p.length:Int) o=ret (o++cZ (r.map (dD c))):=by
 intro r
 induction r with
 |nil=>
  intro p m o h hm ho
  obtain ⟨m,rfl,hm'⟩:=ak hm
  grind [nF,tK,ai,cZ]
 |cons x r ih=>
  intro p m o h hm ho
  obtain ⟨m,rfl,hm'⟩:=ak hm
  obtain ⟨e1,e2,e3,e4⟩:=az h (by omega)
  have hx:aG x:=hl x (by grind)
  simp only [List.length_cons] at ho
  simp only [nF,tK,e1,aj,e2,Option.bind_some,al hk,agx hk hx hc,e3]
  cases hb:jB (dD c x)<;>grind [aj,aM,cZ,ai]
theorem agD (hk:Fu k) {c:Cl} (hc:aG c) {l:List Cl} (hl:ao l) (hlen:l.length<2147483648) (ret:List Cl→Option S):u7 k l c ret=ret (cZ (l.map (dD c))):=by
 simp only [u7,Et]
 have:=acw hk ret hc hl hlen l [] k [] rfl (by omega) (by grind)
 grind
theorem aco (hk:Fu k) (ret:List Cl×Int→Option S) {g f:List Cl} (hf:ao f) (hg:ao g) (hlf:f.length<32768) (hlg:g.length<32768):
  ∀ (r p:List Cl) (m:Nat) (o:List Cl),f=p++r→r.length<m→ao o→o.length+r.length*g.length<1073741825→nH k ret g f m (p.length:Int) o=ret (aW (o++cZ (meets r g))):=by
 intro r
 induction r with
 |nil=>
  intro p m o h hm hok ho
  obtain ⟨m,rfl,hm'⟩:=ak hm
  grind [nH,tM,ai,al,jr,meets,cZ]
 |cons x r ih=>
  intro p m o h hm hok ho
  obtain ⟨m,rfl,hm'⟩:=ak hm
  obtain ⟨e1,e2,e3,e4⟩:=az h (by omega)
  have hx:aG x:=hf x (by grind)
  have hmul:(x::r).length*g.length=r.length*g.length+g.length:=by grind
  rw [hmul] at ho
  have hcl:=Gm (g.map (dD x))
  rw [List.length_map] at hcl
  simp only [nH,tM,e1,aj,e2,Option.bind_some,al hk,agD hk hx hg (show g.length<2147483648 by omega),e3]
  rw [aM (by omega),ih (p++[x]) m _ e4 hm' (d_ hok fun c hc=>by
   obtain ⟨b,hb,rfl⟩:=List.mem_map.1 (Ae hc).1
   exact wY hx (hg b hb)) (by grind)]
  grind [cZ,meets]
theorem agB (hk:Fu k) {f g:List Cl} (hf:ao f) (hg:ao g) (h1:f.length<32768) (h2:g.length<32768) (ret:List Cl×Int→Option S):mO k f g ret=ret (dU f g):=by
 simp only [mO,Ev]
 have hb:f.length*g.length<1073741824:=Nat.lt_of_le_of_lt (Nat.mul_le_mul (Nat.le_of_lt_succ h1) (Nat.le_of_lt_succ h2)) (by decide)
 have:=aco hk ret hf hg h1 h2 f [] k [] rfl (by omega) (fun c hc=>by cases hc) (by grind)
 grind [dU,fF]
theorem acP (hk:Fu k) (ret:List Cl×Int→Option S) (rec0:List Cl→Int→Option S) {x:Cl} (hx:RC x) {g f:List Cl} {v:Int} (hfx:ah f v=some x) (hg: ∀c∈g,RC c) (hlen:g.length<65536):
  ∀ (r p:List Cl) (m:Nat) (o:List Cl),g=p++r→r.length<m→o.length+r.length<1099511627776→lK k ret rec0 f g v m o (p.length:Int)=rec0 (o++r.map (dD x)) (IntKind.wrap .i64 (v+1)):=by
 intro r
 induction r with
 |nil=>
  intro p m o h hm ho
  obtain ⟨m,rfl,hm'⟩:=ak hm
  grind [lK,ui,ai]
 |cons y r ih=>
  intro p m o h hm ho
  obtain ⟨m,rfl,hm'⟩:=ak hm
  obtain ⟨e1,e2,e3,e4⟩:=az h (by omega)
  have hy:RC y:=hg y (by grind)
  simp only [List.length_cons] at ho
  simp only [lK,ui,e1,aj,e2,hfx,Option.bind_some,al hk,OM hk hx hy,e3]
  grind [aM]
theorem acO (hk:Fu k) (ret:List Cl×Int→Option S) {g f:List Cl} (hf: ∀c∈f,RC c) (hg: ∀c∈g,RC c) (hlf:f.length<32768) (hlg:g.length<32768):
  ∀ (r p:List Cl) (m:Nat) (o:List Cl),f=p++r→r.length<m→(∀c∈o,RC c)→o.length+r.length*g.length<1073741824→j_ k ret f g m o (p.length:Int)=ret (fF (o++meets r g)):=by
 intro r
 induction r with
 |nil=>
  grind [ak,j_,pF,ai,al,yn,meets]
 |cons x r ih=>
  intro p m o h hm hok ho
  obtain ⟨m,rfl,hm'⟩:=ak hm
  obtain ⟨e1,e2,e3,e4⟩:=az h (by omega)
  have hx:RC x:=hf x (by grind)
  have hmul:(x::r).length*g.length=r.length*g.length+g.length:=by grind
  rw [hmul] at ho
  have hk':4294967296≤k:=hk
  simp only [j_,pF,e1,aj]
  have:=acP hk ret (j_ k ret f g m) hx e2 hg (by omega) g [] k o rfl (by omega) (by omega)
  grind [KM,meets]
theorem agT (hk:Fu k) {f g:List Cl} (hf:RFa f) (hg:RFa g) (ret:List Cl×Int→Option S):jK k f g ret=ret (dU f g):=by
 have l1:=hf.1.len;have l2:=hg.1.len
 simp only [jK,E0,al hk,mr hk hf.1.2 hf.1.lt,mr hk hg.1.2 hg.1.lt,hf.right,hg.right,Bool.not_true,ai]
 have hb:f.length*g.length≤64*64:=Nat.mul_le_mul l1 l2
 have:=acO hk ret (fun c hc=>hf.1.rc hc) (fun c hc=>hg.1.rc hc) (by omega) (by omega) f [] k [] rfl (by omega) (fun c hc=>by cases hc) (by grind)
 grind [dU]
theorem sn {f g:List Cl} (hf:ao f) (hg:ao g) (h:(dU f g).2=0):RFa (dU f g).1:=B_ (KN hf hg) h
theorem aaK {c:Cl} {i:Int} (h:bn c=false) (hp:bj c.pos i=true):bj c.neg i=false:=by
 cases hn:bj c.neg i with
 |false=>rfl
 |true=>
  exfalso
  unfold bj at hp hn
  rw [Bool.and_eq_true] at hp hn
  unfold bn at h
  rw [Bool.not_eq_false',decide_eq_true_eq] at h
  have:(c.pos.toNat&&&c.neg.toNat).testBit i.toNat=true:=by grind
  grind
theorem Rg {s i:Int} {j:Nat} (h:(c_ s i).toNat.testBit j=true):s.toNat.testBit j=true:=by
 grind [c_,Int.toNat_natCast,kj]
theorem Xl {c:Cl}:bn c=false↔ ∀j,¬ (c.pos.toNat.testBit j=true∧c.neg.toNat.testBit j=true):=by
 unfold bn
 rw [Bool.not_eq_false',decide_eq_true_eq]
 constructor
 ·intro h j ⟨h1,h2⟩
  have:(c.pos.toNat&&&c.neg.toNat).testBit j=true:=by grind
  grind
 ·intro h
  apply Nat.eq_of_testBit_eq
  grind
theorem wv {c:Cl} {i:Int} (h:bn c=false):bn (bQ i c)=false:=by
 rw [Xl] at h ⊢
 exact fun j ⟨h1,h2⟩=>h j ⟨Rg h1,Rg h2⟩
def dK (i:Int) (c:Cl) (h:List Cl) (q:List Cl×Int):List Cl×Int:=
 if q.2=0 then if (dU [bQ i c] q.1).2=0 then ci h (dU [bQ i c] q.1).1 else ([],(dU [bQ i c] q.1).2) else ([],q.2)
def bZ (i:Int) (r h:List Cl) (c:Cl):List Cl×Int:=
 if bj c.pos i then dK i c h (eC r) else if bj c.neg i then dK i c h (eZ r) else ci h [bQ i c]
def gr (f:List Cl) (i:Int) (r:List Cl):List Cl×Int:=if ck f&&a8 r&&jN i then aY (bZ i r) [] f else ([],2)
theorem Lb {i:Int} {c:Cl} {h:List Cl} {q:List Cl×Int} (hh:RFa h) (hq:q.2=0→RFa q.1) (h0:(dK i c h q).2=0):RFa (dK i c h q).1:=by
 unfold dK at h0 ⊢
 split
 ·next h1=>
  rw [if_pos h1] at h0
  split
  ·next h2=>rw [if_pos h2] at h0;exact wA hh (sn (gy (iP i c)).2 (hq h1).1.2 h2) h0
  grind
 grind
theorem aeV {i:Int} {r h:List Cl} {c:Cl} (hr:RF r) (hh:RFa h) (hc:bn c=false) (h0:(bZ i r h c).2=0):RFa (bZ i r h c).1:=by
 unfold bZ at h0 ⊢
 split
 ·next h1=>rw [if_pos h1] at h0;exact Lb hh (fun h=>CN h hr.2) h0
 ·next h1=>
  rw [if_neg h1] at h0
  split
  ·next h2=>rw [if_pos h2] at h0;exact Lb hh (fun h=>CO h hr.2) h0
  grind [wA,yd,iP,wv]
theorem aat {i:Int} {r:List Cl} (hr:RF r): ∀ {l h:List Cl},(∀c∈l,bn c=false)→RFa h→(aY (bZ i r) h l).2=0→RFa (aY (bZ i r) h l).1:=by
 intro l
 induction l<;>grind [aY,aeV]
theorem aeY {f r:List Cl} {i:Int} (hf:ao f) (hr:ao r) (h:(gr f i r).2=0):RFa (gr f i r).1:=by
 unfold gr at h ⊢
 split
 ·next hc=>
  rw [if_pos hc] at h
  simp only [Bool.and_eq_true] at hc
  exact aat ((eH hr).1 hc.1.2) ((ml hf).1 hc.1.1).2 DM h
 grind
theorem faJ (hk:Fu k) (ret:List Cl×Int→Option S) (rec0:Int→List Cl→Option S) (i:Int) (r f:List Cl) {h:List Cl} {v:Int} {g:List Cl} {e:Int} (hh:RF h) (hg:e=0→RF g):
  nE k ret rec0 i r f v h k g e=if e=0 then if (ci h g).2=0 then rec0 (IntKind.wrap .i64 (v+1)) (ci h g).1 else ret ([],(ci h g).2) else ret ([],e):=by
 obtain ⟨q,hq⟩: ∃q,k=q+1:=⟨k-1,by omega⟩
 have: ∀j,j=q+1→nE k ret rec0 i r f v h j g e=tJ k ret i r f v h rec0 g e:=by rintro j rfl;rfl
 rw [this k hq]
 simp only [tJ,bR]
 by_cases h0:e=0
 ·have l1:=hh.len;have l2:=(hg h0).len
  rw [decide_eq_true h0,aj,if_pos h0,al hk,agA hk hh.2 (hg h0).2 (by omega) (by omega)]
  grind [ai,aj]
 grind [ai,aj]
theorem acp (hk:Fu k) (ret:List Cl×Int→Option S) {i:Int} {q:List Cl} (hq:RF q) {l:List Cl} (hl:ao l) (hc: ∀c∈l,bn c=false) (hlen:l.length<2147483648):
  ∀ (r p:List Cl) (m:Nat) (h:List Cl),l=p++r→r.length<m→RFa h→j4 k ret i q l m (p.length:Int) h=ret (aY (bZ i q) h r):=by
 intro r
 induction r with
 |nil=>
  intro p m h e hm hh
  obtain ⟨m,rfl,hm'⟩:=ak hm
  simp only [j4,pr,cQ e,ai];rfl
 |cons x r ih=>
  intro p m h e hm hh
  obtain ⟨m,rfl,hm'⟩:=ak hm
  obtain ⟨e1,e2,e3,e4⟩:=az e (by omega)
  have hx:aG x:=hl x (by grind)
  have hxc:bn x=false:=hc x (by grind)
  have hg:=yd (iP i x) (wv hxc)
  have key: ∀ (g:List Cl) (e:Int),(e=0→RFa g)→(bZ i q h x=if e=0 then ci h g else ([],e))→nE k ret (j4 k ret i q l m) i q l (p.length:Int) h k g e=ret (aY (bZ i q) h (x::r)):=by
   intro g e hge hput
   rw [faJ hk _ _ _ _ _ hh.1 (fun h=>(hge h).1),aY,hput]
   grind [wA]
  have em: ∀ (s:List Cl),RF s→ ∀ (f:List Cl×Int→Option S),mO k [Cl.mk (c_ x.pos i) (c_ x.neg i)] s f=f (dU [bQ i x] s):=fun s hs f=>agB hk hg.1.2 hs.2 (by simp) (by have:=hs.len;omega) f
  simp only [j4,pr,e1,aj,e2,Option.bind_some,al hk,tb hk hx.1,tb hk hx.2,oQ hk hx.1,oQ hk hx.2,OE hk hq.2 hq.lt,agy hk hq.2 hq.lt,bR]
  cases hp:bj x.pos i with
  |true=>
   rw [aj]
   by_cases h1:(eC q).2=0
   ·have ho:=CN h1 hq.2
    rw [decide_eq_true h1,aj,em _ ho.1]
    exact key _ _ (fun h0=>sn hg.1.2 ho.1.2 h0) (by grind [bZ,dK])
   grind [ai,bZ,dK]
  |false=>
   rw [ai]
   cases hn:bj x.neg i with
   |true=>
    rw [aj]
    by_cases h1:(eZ q).2=0
    ·have ho:=CO h1 hq.2
     rw [decide_eq_true h1,aj,em _ ho.1]
     exact key _ _ (fun h0=>sn hg.1.2 ho.1.2 h0) (by grind [bZ,dK])
    grind [ai,bZ,dK]
   |false=>
    grind [ai,bQ,bZ]
theorem agz (hk:Fu k) {f r:List Cl} {i:Int} (hf:ao f) (hr:ao r) (h1:f.length<2147483648) (h2:r.length<2147483648) (ret:List Cl×Int→Option S):u6 k f i r ret=ret (gr f i r):=by
 simp only [u6,Es,al hk,DZ hk hf h1,agu hk,oR hk hr h2]
 unfold gr jN
 cases ha:ck f with
 |false=>rfl
 |true=>
  rw [Bool.not_true,ai]
  by_cases hd:0≤i∧i<24
  ·rw [decide_eq_true hd,Bool.not_true,ai]
   cases hb:a8 r with
   |false=>rfl
   |true=>
    rw [Bool.not_true,ai]
    exact acp hk ret ((eH hr).1 hb) hf ((ml hf).1 ha).2 h1 f [] k [] rfl (by omega) DM
  grind [aj]
theorem adY {i:Int} {c:Cl} (h:bn c=false):dU [bQ i c] [⟨0,0⟩]=([bQ i c],0):=by
 have e:meets [bQ i c] [⟨0,0⟩]=[bQ i c]:=by
  grind [bQ,FG,dD,dJ,Int.toNat_of_nonneg,meets]
 unfold dU fF
 rw [e,Gl fun d hd=>by grind [wv]]
 exact (gy (iP i c)).1
theorem acQ (hk:Fu k) (ret:List Cl×Int→Option S) {i:Int} {q:List Cl} (hq:RF q) {l:List Cl} (hl:ao l) (hc: ∀c∈l,bn c=false) (hlen:l.length<2147483648):
  ∀ (r p:List Cl) (m:Nat) (h:List Cl),l=p++r→r.length<m→RFa h→lL k ret l i q m h (p.length:Int)=ret (aY (bZ i q) h r):=by
 intro r
 induction r with
 |nil=>
  intro p m h e hm hh
  obtain ⟨m,rfl,hm'⟩:=ak hm
  simp only [lL,uj,cQ e,ai];rfl
 |cons x r ih=>
  intro p m h e hm hh
  obtain ⟨m,rfl,hm'⟩:=ak hm
  obtain ⟨e1,e2,e3,e4⟩:=az e (by omega)
  have hx:aG x:=hl x (by grind)
  have hxc:bn x=false:=hc x (by grind)
  have hg:=yd (iP i x) (wv hxc)
  have lh:=hh.1.len
  have em: ∀ (s:List Cl),RFa s→ ∀ (f:List Cl×Int→Option S),jK k [Cl.mk (c_ x.pos i) (c_ x.neg i)] s f=f (dU [bQ i x] s):=fun s hs f=>agT hk hg hs f
  have ej: ∀ (s:List Cl),RFa s→ ∀ (f:List Cl×Int→Option S),fm k h s f=f (ci h s):=fun s hs f=>by
   have ls:=hs.1.len
   rw [agS hk hh.1.2 hs.1.2 (by omega) (by omega)]
   unfold BE
   rw [hh.right,hs.right];rfl
  have key: ∀ (g:List Cl),RFa g→bZ i q h x=ci h g→(fm k h g fun r10=>ab (!decide (r10.2=0)) (ret ([],r10.2)) (lL k ret l i q m r10.1 ((p++[x]).length:Int)))=ret (aY (bZ i q) h (x::r)):=by
   grind [aY,ai,wA,aj]
  have bad: ∀ (e:Int),e≠0→bZ i q h x=([],e)→ret ([],e)=ret (aY (bZ i q) h (x::r)):=by
   grind [aY]
  simp only [lL,uj,e1,aj,e2,Option.bind_some,al hk,yo hk hx.1,yo hk hx.2,gz hk hx.1,gz hk hx.2,agU hk hq.2 (show q.length<1073741824 by have:=hq.len;omega),agV hk hq.2 hq.lt,bR,e3]
  cases hp:bj x.pos i with
  |true=>
   rw [aj,aaK hxc hp,ai]
   by_cases h1:(eC q).2=0
   ·have ho:=CN h1 hq.2
    rw [decide_eq_true h1,aj,em _ ho]
    by_cases h2:(dU [bQ i x] (eC q).1).2=0
    ·rw [decide_eq_true h2,aj]
     exact key _ (sn hg.1.2 ho.1.2 h2) (by grind [bZ,dK])
    grind [ai,aj,bZ,dK]
   grind [ai,aj,bZ,dK]
  |false=>
   rw [ai]
   cases hn:bj x.neg i with
   |true=>
    rw [aj]
    by_cases h1:(eZ q).2=0
    ·have ho:=CO h1 hq.2
     rw [decide_eq_true h1,aj,em _ ho]
     by_cases h2:(dU [bQ i x] (eZ q).1).2=0
     ·rw [decide_eq_true h2,aj]
      exact key _ (sn hg.1.2 ho.1.2 h2) (by grind [bZ,dK])
     grind [ai,aj,bZ,dK]
    grind [ai,aj,bZ,dK]
   |false=>
    rw [ai,em _ (yd mj (by decide)),adY hxc]
    grind [aj,bZ]
theorem agW (hk:Fu k) {f r:List Cl} {i:Int} (hf:ao f) (hr:ao r) (h1:f.length<2147483648) (h2:r.length<2147483648) (ret:List Cl×Int→Option S):vA k f i r ret=ret (gr f i r):=by
 simp only [vA,E1,al hk,mr hk hf h1,fJ hk hr h2,aH]
 unfold gr jN
 cases ha:ck f with
 |false=>rfl
 |true=>
  rw [Bool.not_true,ai]
  by_cases h3:i<0
  ·grind
  ·by_cases h4:i≥24
   ·grind
   ·rw [if_neg h3,if_neg h4,decide_eq_true (by omega)]
    cases hb:a8 r with
    |false=>rfl
    |true=>
     rw [Bool.not_true,ai]
     exact acQ hk ret ((eH hr).1 hb) hf ((ml hf).1 ha).2 h1 f [] k [] rfl (by omega) DM
end Go.Proofs.YtgajalidbabccaaGreatDoor
namespace Go.Proofs.YtgajalidbabccaaGreatDoor
open Go PI
set_option linter.unusedVariables false
set_option linter.unusedSimpArgs false
mutual
def aD:Tm→Nat
 | .mk _ _ _ _ ks sys=>1+aN ks+aZ sys
def aN:List Tm→Nat
 |[]=>0
 |t::l=>aD t+aN l
def aZ:List (Br Tm)→Nat
 |[]=>0
 |b::l=>mu b+aZ l
def mu:Br Tm→Nat
 | .mk _ ks=>aN ks
end
mutual
def av:Tm→Nat
 | .mk _ _ _ _ ks sys=>max (bt ks) (bU sys)+1
def bt:List Tm→Nat
 |[]=>0
 |t::l=>max (av t) (bt l)
def bU:List (Br Tm)→Nat
 |[]=>0
 |b::l=>max (vN b) (bU l)
def vN:Br Tm→Nat
 | .mk _ ks=>bt ks
end
theorem td (b:Br Tm):mu b=aN b.kids:=by cases b;rw [mu]
theorem qU (b:Br Tm):vN b=bt b.kids:=by cases b;rw [vN]
theorem O2 (t:Tm):1≤aD t:=by cases t;rw [aD];omega
theorem te: ∀ {l:List Tm} {x:Tm},x∈l→aD x≤aN l:=by
 intro l
 induction l<;>grind [aN]
theorem O1: ∀ {l:List (Br Tm)} {b:Br Tm},b∈l→aN b.kids≤aZ l:=by
 intro l
 induction l<;>grind [aZ,td]
theorem Hj: ∀ {l:List Tm} {x:Tm},x∈l→av x≤bt l:=by
 intro l
 induction l<;>grind [bt]
theorem XB: ∀ {l:List (Br Tm)} {b:Br Tm},b∈l→bt b.kids≤bU l:=by
 intro l
 induction l<;>grind [bU,qU]
theorem h9 {Q:Tm→Prop} (h: ∀kd n nm r ks sys,(∀x∈ks,Q x)→(∀b∈sys,∀x∈b.kids,Q x)→Q (.mk kd n nm r ks sys)) (t:Tm):Q t:=by
 have: ∀m t,aD t≤m→Q t:=by
  intro m
  induction m with
  |zero=>grind [O2]
  |succ m ih=>
   intro t ht
   cases t with
   |mk kd n nm r ks sys=>
    rw [aD] at ht
    refine h _ _ _ _ _ _ (fun x hx=>ih x ?_) fun b hb x hx=>ih x ?_
    ·have:=te hx;omega
    ·have:=O1 hb;have:=te hx;omega
 exact this _ t (Nat.le_refl _)
def kidsT:List Int:=[-1,0,0,0,2,1,2,2,2,1,1,3,1,3,2,2,1,1,1,0,0,0,4,1,0,0,1,5,2]
def d7 (kd:Int):Int:=if kd<0∨kd>28 then-1 else kidsT.getD kd.toNat 0
def df (kd i:Int):Int:=if (i=1∧(kd=4∨kd=7))∨(i=0∧(kd=5∨kd=22∨kd=27)) then 1 else 0
def bL (kd i:Int):Int:=if i=0∧(kd=11∨kd=12∨kd=14) then 1 else 0
def cj (kd:Int):Int:=if kd=16 then 2 else if kd=15∨kd=17∨kd=18 then 1 else 0
def au (kd:Int):Int:=if kd=15 then 1 else 0
theorem qb (kd i:Int):0≤df kd i∧df kd i≤1:=by grind [df]
theorem iy (kd i:Int):0≤bL kd i∧bL kd i≤1:=by grind [bL]
theorem d9 (kd:Int):0≤au kd∧au kd≤1:=by grind [au]
def ji (c:UInt8):Bool:=(decide (97≤c.toNat)&&decide (c.toNat≤122))||(decide (65≤c.toNat)&&decide (c.toNat≤90))||decide (c.toNat=95)
def ng (c:UInt8):Bool:=decide (48≤c.toNat)&&decide (c.toNat≤57)
def lY:List UInt8→Bool
 |[]=>false
 |c::l=>ji c&&l.all fun d=>ji d||ng d
def cE (kd dims:Int) (b:Br Tm):Bool:=decide ((b.kids.length:Int)=cj kd)&&(ck b.face&&cG b.face dims)
def du (vars dims:Int):Tm→Bool
 | .mk kd n nm r ks sys=>
  (decide (d7 kd=ks.length)&&(decide (kd=1∨n=0)&&(decide (kd=2∨nm.size=0)&&decide (cj kd=0→sys.length=0))))&&
  (if kd=1 then decide (r.length=0)&&(decide (0≤n)&&decide (vars<0∨n<vars))
   else if kd=2 then decide (r.length=0)&&lY nm.data.toList
   else if kd=13∨kd=21∨kd=26 then a8 r&&cG r dims
   else if kd=14 then ck r&&cG r dims
   else sys.all (cE kd dims)&&decide (r.length=0))
def ca (vars v:Int):Int:=if vars<0 then vars else vars+v
mutual
def aQ (bd:Bool) (vars dims:Int):Tm→Bool
 | .mk kd n nm r ks sys=> !(bd&&decide (dims>24))&&(du vars dims (.mk kd n nm r ks sys)&&(bz bd vars dims kd 0 ks&&b8 bd vars dims kd sys))
def bz (bd:Bool) (vars dims kd:Int) (i:Nat):List Tm→Bool
 |[]=>true
 |t::l=>aQ bd (ca vars (df kd i)) (dims+bL kd i) t&&bz bd vars dims kd (i+1) l
def b8 (bd:Bool) (vars dims kd:Int):List (Br Tm)→Bool
 |[]=>true
 |b::l=>k_ bd vars dims kd b&&b8 bd vars dims kd l
def k_ (bd:Bool) (vars dims kd:Int):Br Tm→Bool
 | .mk _ ks=>bY bd vars dims kd ks
def bY (bd:Bool) (vars dims kd:Int):List Tm→Bool
 |[]=>true
 |t::l=>aQ bd vars (dims+au kd) t&&bY bd vars dims kd l
end
def dB (t:Tm):Int:=if av t>200 then 62 else if aD t>20000 then 221 else if aQ false (-1) 24 t then 0 else 100
mutual
def OkT:Tm→Prop
 | .mk kd n nm r ks sys=>(aF kd∧aF n∧nm.size<1073741824∧ao r∧r.length<1073741824∧ks.length<1073741824∧sys.length<1073741824)∧bO ks∧bP sys
def bO:List Tm→Prop
 |[]=>True
 |t::l=>OkT t∧bO l
def bP:List (Br Tm)→Prop
 |[]=>True
 |b::l=>kU b∧bP l
def kU:Br Tm→Prop
 | .mk f ks=>(ao f∧f.length<1073741824∧ks.length<1073741824)∧bO ks
end
theorem okK_iff: ∀ {l:List Tm},bO l↔ ∀t∈l,OkT t:=by
 intro l
 induction l<;>grind [bO]
theorem l6 {b:Br Tm}:kU b↔(ao b.face∧b.face.length<1073741824∧b.kids.length<1073741824)∧ ∀t∈b.kids,OkT t:=by
 cases b;rw [kU,okK_iff]
theorem aee: ∀ {l:List (Br Tm)},bP l↔ ∀b∈l,(ao b.face∧b.face.length<1073741824∧b.kids.length<1073741824)∧ ∀t∈b.kids,OkT t:=by
 intro l
 induction l<;>grind [bP,l6]
theorem OkT.node {kd n nm r ks sys} (h:OkT (.mk kd n nm r ks sys)):aF kd∧aF n∧nm.size<1073741824∧ao r∧r.length<1073741824∧ks.length<1073741824∧sys.length<1073741824:=by grind [OkT]
theorem OkT.kid {kd n nm r ks sys x} (h:OkT (.mk kd n nm r ks sys)) (hx:x∈ks):OkT x:=by grind [OkT,okK_iff]
theorem OkT.br {kd n nm r ks sys b} (h:OkT (.mk kd n nm r ks sys)) (hb:b∈sys):(ao b.face∧b.face.length<1073741824∧b.kids.length<1073741824)∧ ∀t∈b.kids,OkT t:=by grind [OkT,aee]
theorem WM {bd:Bool} {vars dims kd:Int}: ∀ {l:List Tm},bY bd vars dims kd l=l.all (aQ bd vars (dims+au kd)):=by
 intro l
 induction l<;>grind [bY]
theorem FO {bd:Bool} {vars dims kd:Int}: ∀ {l:List (Br Tm)},b8 bd vars dims kd l=l.all fun b=>b.kids.all (aQ bd vars (dims+au kd)):=by
 intro l
 induction l with
 |nil=>rfl
 |cons b l ih=>cases b;simp_all [b8,k_,WM]
end Go.Proofs.YtgajalidbabccaaGreatDoor
namespace Go.Proofs.YtgajalidbabccaaGreatDoor
open Go PI
set_option linter.unusedVariables false
set_option linter.unusedSimpArgs false
set_option maxRecDepth 100000
section
variable {H:Type} {enc:TypeId×Value→H} {w:World} {base:Nat} {spare:Nat→Bool} {held:Bool} {o:Obj} {N:ax} {g:Gh UU}
noncomputable abbrev h_ (enc:TypeId×Value→H) (w:World) (base:Nat) (spare:Nat→Bool) (held:Bool):=DataW.trod enc Tryz.prog w base spare held
def mA (o:Obj) (w:World) (N:ax) (g:Gh UU) (e:ET) (x:EL e) (cs:List Value):Prop:= ∀ (k:Nat) (p:PU),(dg e x)[k]? =some p→ ∃v,cs[k]? =some v∧Rep (LL o) w N g v p
theorem Ad {l:List (DataW H)}:l.length≤Rows.uptoBulkAll l:=by
 induction l with
 |nil=>simp [Rows.uptoBulkAll]
 |cons x r ih=>
  have:1≤Rows.uptoBulk x:=by
   cases x with
   |lit l=>cases l<;>simp [Rows.uptoBulk]
   |_=>simp [Rows.uptoBulk]
  simp only [Rows.uptoBulkAll,List.length_cons];omega
theorem build {α β:Type} {R:Nat→β→α→Prop}: ∀ (elems:List β) (s:Nat),(∀i d,elems[i]? =some d→ ∃x,R (s+i) d x)→ ∃l:List α,l.length=elems.length∧ ∀i d,elems[i]? =some d→ ∃x,l[i]? =some x∧R (s+i) d x:=by
 intro elems
 induction elems with
 |nil=>intro s h;exact ⟨[],rfl,fun i d h=>by simp at h⟩
 |cons d r ih=>
  intro s h
  obtain ⟨x,hx⟩:=h 0 d rfl
  obtain ⟨l,hl,hr⟩:=ih (s+1) fun i d' hd=>by
   obtain ⟨x,hx⟩:=h (i+1) d' (by simpa using hd)
   exact ⟨x,by rw [show s+1+i=s+(i+1) by omega];exact hx⟩
  refine ⟨x::l,by simp [hl],fun i d' hd=> ?_⟩
  cases i with
  |zero=>injection hd with hd;subst hd;exact ⟨x,rfl,hx⟩
  |succ i=>
   obtain ⟨y,hy,hr⟩:=hr i d' (by simpa using hd)
   exact ⟨y,by simpa using hy,by rw [show s+(i+1)=s+1+i by omega];exact hr⟩
theorem CR (hN: ∀b o,¬N b o) {e:ET} {tS tE:TypeId} (ht:Tryz.prog.underlying tS=some (.slice tE)) (hc:Tryz.prog.cellsOf tE=nr e) {Q:EL e→DataW H→Prop} {n:Nat} {cs:List Value} {d:DataW H} {pl:List MemPlace}
  (hel: ∀ (cs:List Value) (d:DataW H) (pl:List MemPlace),h_ enc w base spare held n tE cs=some (d,pl)→ ∃x:EL e,mA o w N g e x cs∧Q x d) (h:h_ enc w base spare held (n+1) tS cs=some (d,pl)):
  ∃ (v:Value) (l:List (EL e)) (ds:List (DataW H)),cs=[v]∧Rep (LL o) w N g v (.sl (U:=UU) e l .none)∧l.length=ds.length∧(∀ (i:Nat) (x:EL e) (y:DataW H),l[i]? =some x→ds[i]? =some y→Q x y)∧Rows.uptoBulkAll ds+1≤Rows.uptoBulk d:=by
 rcases DataW.trod_slice ht h with ⟨rfl,hx⟩|⟨a,len,cap,elems,rest,m,hm,rfl,hx,hb,hl,hcp,hlen,hee,_,_⟩
 ·injection hx with hx _
  subst hx
  exact ⟨_,[],[],rfl,Rep.sl (X:=LL o) (N:=N) (g:=g) none 0 0 e (show List (EL e) from []) .none (fun _ _=>undef) rfl (Nat.le_refl _) trivial (fun j x hx=>by cases hx) (fun j x hx=>by cases hx),rfl,fun i x y h=>by simp at h,by simp [Rows.uptoBulkAll,Rows.uptoBulk]⟩
 ·obtain rfl:n=m:=by omega
  injection hx with hx _
  subst hx
  obtain ⟨l,hll,hlr⟩:=build (R:=fun i (y:DataW H×List MemPlace) (x:EL e)=> ∃cs',w.cells? base (a.add (i*Tryz.prog.cellsOf tE)) (Tryz.prog.cellsOf tE)=some cs'∧mA o w N g e x cs'∧Q x y.1) elems 0 fun i y hy=>by
   have hi:i<len:=by rw [←hlen];exact (List.getElem?_eq_some_iff.1 hy).1
   have:=hee i hi
   rw [hy] at this
   obtain ⟨cs',h1,h2⟩:=Option.bind_eq_some_iff.1 this
   obtain ⟨x,hx1,hx2⟩:=hel cs' y.1 y.2 h2
   exact ⟨x,cs',by simpa using h1,hx1,hx2⟩
  have hget: ∀ (j:Nat) (x:EL e),l[j]? =some x→ ∃ (y:DataW H×List MemPlace) (cs':List Value),elems[j]? =some y∧w.cells? base (a.add (j*Tryz.prog.cellsOf tE)) (Tryz.prog.cellsOf tE)=some cs'∧mA o w N g e x cs'∧Q x y.1:=fun j x hx=>by
   have hj:j<elems.length:=by rw [←hll];exact (List.getElem?_eq_some_iff.1 hx).1
   obtain ⟨x',hx',cs',h1,h2,h3⟩:=hlr j _ (List.getElem?_eq_getElem hj)
   rw [hx] at hx'
   injection hx' with hx'
   subst hx'
   exact ⟨_,cs',List.getElem?_eq_getElem hj,by simpa using h1,h2,h3⟩
  have hcell: ∀ (j:Nat) (x:EL e),l[j]? =some x→ ∀ (k:Nat) (p:PU),(dg e x)[k]? =some p→ ∃v,w.cell? (a.add (j*(LL o).esize e+k))=some v∧Rep (LL o) w N g v p:=fun j x hx k p hp=>by
   obtain ⟨y,cs',_,h1,h2,_⟩:=hget j x hx
   obtain ⟨v,hv,hr⟩:=h2 k p hp
   obtain ⟨_,hl',hcs⟩:=World.cells?_some h1
   have hk:k<Tryz.prog.cellsOf tE:=by rw [←hl'];exact (List.getElem?_eq_some_iff.1 hv).1
   have:=hcs k hk
   rw [hv,Go.Deep.add_add,hc] at this
   exact ⟨v,this,hr⟩
  refine ⟨_,l,elems.map (·.1),rfl,Rep.sl (X:=LL o) (some a) len cap e l .none (fun j k=>(w.cell? (a.add (j*(LL o).esize e+k))).getD undef) (by rw [←hlen];exact hll) hl trivial (fun j x hx k p hp=> ?_) (fun j x hx k p hp=> ?_),by simpa using hll,fun i x y hx hy=> ?_,by simp [Rows.uptoBulk]⟩
  ·obtain ⟨v,hv,_⟩:=hcell j x hx k p hp
   exact ⟨a,rfl,by simp [hv],hN _ _⟩
  ·obtain ⟨v,hv,hr⟩:=hcell j x hx k p hp
   simp only [hv];exact hr
  ·obtain ⟨y',cs',h1,_,_,h3⟩:=hget i x hx
   have:y=y'.1:=by
    rw [List.getElem?_map,h1] at hy
    injection hy with hy;exact hy.symm
   subst this
   exact h3
theorem K3 {n:Nat} {cs:List Value} {d:DataW H} {pl:List MemPlace} (h:h_ enc w base spare held n 3 cs=some (d,pl)): ∃z,cs=[.int .i64 z]∧aF z:=by
 obtain ⟨z,rfl,_,hw⟩:=DataW.trod_int Tryz.underlying3 h
 refine ⟨z,rfl, ?_⟩
 simp [Lit.wf,IntKind.has] at hw
 have h1:IntKind.i64.min= -9223372036854775808:=rfl
 have h2:IntKind.i64.max=9223372036854775807:=rfl
 unfold aF
 omega
theorem K4 {n:Nat} {cs:List Value} {d:DataW H} {pl:List MemPlace} (h:h_ enc w base spare held n 51 cs=some (d,pl)): ∃z,cs=[.int .u32 z]∧U32 z:=by
 obtain ⟨z,rfl,_,hw⟩:=DataW.trod_int Tryz.underlying51 h
 refine ⟨z,rfl, ?_⟩
 simp [Lit.wf,IntKind.has] at hw
 have h1:IntKind.u32.min=0:=rfl
 have h2:IntKind.u32.max=4294967295:=rfl
 unfold U32
 omega
def QC (c:Cl) (d:DataW H):Prop:=aG c
def QT (t:Tm) (d:DataW H):Prop:=aD t≤Rows.uptoBulk d∧(Rows.uptoBulk d<1073741824→OkT t)
def QB (b:Br Tm) (d:DataW H):Prop:=mu b≤Rows.uptoBulk d∧(Rows.uptoBulk d<1073741824→(ao b.face∧b.face.length<1073741824∧b.kids.length<1073741824)∧ ∀t∈b.kids,OkT t)
theorem aeI {n:Nat} {cs:List Value} {d:DataW H} {pl:List MemPlace} (h:h_ enc w base spare held n 53 cs=some (d,pl)): ∃x:EL ET.C,mA o w N g ET.C x cs∧QC (show Cl from x) d:=by
 obtain ⟨xs,m,rfl,_,hl,hlen,hf⟩:=DataW.trod_struct Tryz.underlying53 h
 have hl2:cs.length=2:=hl.trans (by kernel_rfl)
 match cs,hl2,xs,hlen with
 |[a,b],_,[y0,y1],_=>
 have h0:=hf 0 _ rfl
 have h1:=hf 1 _ rfl
 have c51:Tryz.prog.cellsOf 51=1:=by kernel_rfl
 simp [c51] at h0 h1
 obtain ⟨z0,e0,k0⟩:=K4 h0
 obtain ⟨z1,e1,k1⟩:=K4 h1
 obtain rfl:a= .int .u32 z0:=by simpa using e0
 obtain rfl:b= .int .u32 z1:=by simpa using e1
 refine ⟨(⟨z0,z1⟩:Cl),fun k p hp=> ?_,⟨k0,k1⟩⟩
 match k,hp with
 |0,hp=>cases hp;exact ⟨_,rfl,.int _ _⟩
 |1,hp=>cases hp;exact ⟨_,rfl,.int _ _⟩
 |k+2,hp=>simp [dg] at hp
theorem ahI {l:List Tm} {ds:List (DataW H)} (hl:l.length=ds.length) (h: ∀ (i:Nat) (x:Tm) (y:DataW H),l[i]? =some x→ds[i]? =some y→QT x y):aN l≤Rows.uptoBulkAll ds∧(Rows.uptoBulkAll ds<1073741824→ ∀t∈l,OkT t):=by
 induction l generalizing ds with
 |nil=>rw [aN];exact ⟨Nat.zero_le _,fun _ t ht=>by cases ht⟩
 |cons t l ih=>
  cases ds with
  |nil=>cases hl
  |cons d ds=>
   obtain ⟨h1,h2⟩:=h 0 t d rfl rfl
   obtain ⟨i1,i2⟩:=ih (ds:=ds) (by simpa using hl) fun i x y hx hy=>h (i+1) x y (by simpa using hx) (by simpa using hy)
   rw [aN,Rows.uptoBulkAll]
   refine ⟨by omega,fun hb u hu=> ?_⟩
   rcases List.mem_cons.1 hu with rfl|hu
   ·exact h2 (by omega)
   ·exact i2 (by omega) u hu
theorem ahJ {l:List (Br Tm)} {ds:List (DataW H)} (hl:l.length=ds.length) (h: ∀ (i:Nat) (x:Br Tm) (y:DataW H),l[i]? =some x→ds[i]? =some y→QB x y):aZ l≤Rows.uptoBulkAll ds∧(Rows.uptoBulkAll ds<1073741824→bP l):=by
 induction l generalizing ds with
 |nil=>rw [aZ,bP];exact ⟨Nat.zero_le _,fun _=>trivial⟩
 |cons t l ih=>
  cases ds with
  |nil=>cases hl
  |cons d ds=>
   obtain ⟨h1,h2⟩:=h 0 t d rfl rfl
   obtain ⟨i1,i2⟩:=ih (ds:=ds) (by simpa using hl) fun i x y hx hy=>h (i+1) x y (by simpa using hx) (by simpa using hy)
   rw [aZ,Rows.uptoBulkAll,bP,l6]
   exact ⟨by omega,fun hb=>⟨h2 (by omega),i2 (by omega)⟩⟩
theorem K0 (hN: ∀b o,¬N b o) {n:Nat} {cs:List Value} {d:DataW H} {pl:List MemPlace} (h:h_ enc w base spare held n 22 cs=some (d,pl)):
  ∃ (v:Value) (l:List Cl),cs=[v]∧Rep (LL o) w N g v (bq l .none)∧ao l∧l.length+1≤Rows.uptoBulk d:=by
 cases n with
 |zero=>cases h
 |succ n=>
  obtain ⟨v,l,ds,rfl,hr,hl,hq,hb⟩:=CR (e:=ET.C) (Q:=fun x d=>QC (show Cl from x) d) hN Tryz.underlying22 (by kernel_rfl) (fun cs d pl h=>aeI h) h
  refine ⟨v,l,rfl,hr,fun c hc=> ?_, ?_⟩
  ·obtain ⟨i,hi⟩:=List.getElem?_of_mem hc
   have hlt:i<ds.length:=by rw [←hl];exact (List.getElem?_eq_some_iff.1 hi).1
   exact hq i c _ hi (List.getElem?_eq_getElem hlt)
  ·have:=Ad (l:=ds)
   have hl': @List.length Cl l=ds.length:=hl
   omega
theorem aeH (hN: ∀b o,¬N b o): ∀ (n:Nat),
  (∀ (cs:List Value) (d:DataW H) (pl:List MemPlace),h_ enc w base spare held n 26 cs=some (d,pl)→ ∃x:EL ET.T,mA o w N g ET.T x cs∧QT (show Tm from x) d)∧
  (∀ (cs:List Value) (d:DataW H) (pl:List MemPlace),h_ enc w base spare held n 48 cs=some (d,pl)→ ∃x:EL ET.B,mA o w N g ET.B x cs∧QB (show Br Tm from x) d)∧
  (∀ (cs:List Value) (d:DataW H) (pl:List MemPlace),h_ enc w base spare held n 23 cs=some (d,pl)→ ∃ (v:Value) (l:List Tm),cs=[v]∧Rep (LL o) w N g v (dF l .none)∧aN l+1≤Rows.uptoBulk d∧l.length+1≤Rows.uptoBulk d∧(Rows.uptoBulk d<1073741824→ ∀t∈l,OkT t))∧
  (∀ (cs:List Value) (d:DataW H) (pl:List MemPlace),h_ enc w base spare held n 24 cs=some (d,pl)→ ∃ (v:Value) (l:List (Br Tm)),cs=[v]∧Rep (LL o) w N g v (bX l .none)∧aZ l+1≤Rows.uptoBulk d∧l.length+1≤Rows.uptoBulk d∧(Rows.uptoBulk d<1073741824→bP l)):=by
 intro n
 induction n with
 |zero=>exact ⟨fun cs d pl h=>(by cases h),fun cs d pl h=>(by cases h),fun cs d pl h=>(by cases h),fun cs d pl h=>(by cases h)⟩
 |succ n ih=>
 obtain ⟨iT,iB,iK,iS⟩:=ih
 have c3:Tryz.prog.cellsOf 3=1:=by kernel_rfl
 have c9:Tryz.prog.cellsOf 9=1:=by kernel_rfl
 have c22:Tryz.prog.cellsOf 22=1:=by kernel_rfl
 have c23:Tryz.prog.cellsOf 23=1:=by kernel_rfl
 have c24:Tryz.prog.cellsOf 24=1:=by kernel_rfl
 refine ⟨fun cs d pl h=> ?_,fun cs d pl h=> ?_,fun cs d pl h=> ?_,fun cs d pl h=> ?_⟩
 ·obtain ⟨xs,m,hm,hx,hl,hlen,hf⟩:=DataW.trod_struct Tryz.underlying26 h
  obtain rfl:n=m:=by omega
  injection hx with hx _
  subst hx
  have hl6:cs.length=6:=hl.trans (by kernel_rfl)
  match cs,hl6,xs,hlen with
  |[a0,a1,a2,a3,a4,a5],_,[y0,y1,y2,y3,y4,y5],_=>
  have h0:=hf 0 _ rfl
  have h1:=hf 1 _ rfl
  have h2:=hf 2 _ rfl
  have h3:=hf 3 _ rfl
  have h4:=hf 4 _ rfl
  have h5:=hf 5 _ rfl
  simp [c3,c9,c22,c23,c24] at h0 h1 h2 h3 h4 h5
  obtain ⟨z0,e0,k0⟩:=K3 h0
  obtain ⟨z1,e1,k1⟩:=K3 h1
  obtain ⟨s,e2,k2,_⟩:=DataW.trod_string Tryz.underlying9 h2
  obtain ⟨v3,l3,e3,r3,k3,m3⟩:=K0 (o:=o) (g:=g) hN h3
  obtain ⟨v4,l4,e4,r4,k4,m4,q4⟩:=iK _ _ _ h4
  obtain ⟨v5,l5,e5,r5,k5,m5,q5⟩:=iS _ _ _ h5
  obtain rfl:a0= .int .i64 z0:=by simpa using e0
  obtain rfl:a1= .int .i64 z1:=by simpa using e1
  obtain rfl:a2= .string s:=by simpa using e2
  obtain rfl:a3=v3:=by simpa using e3
  obtain rfl:a4=v4:=by simpa using e4
  obtain rfl:a5=v5:=by simpa using e5
  have hs:s.size<Rows.uptoBulk y2.1:=by
   rw [k2]
   simp [Rows.uptoBulk]
  refine ⟨Tm.mk z0 z1 s l3 l4 l5,fun k p hp=> ?_, ?_,fun hb=> ?_⟩
  ·match k,hp with
   |0,hp=>cases hp;exact ⟨_,rfl,.int _ _⟩
   |1,hp=>cases hp;exact ⟨_,rfl,.int _ _⟩
   |2,hp=>cases hp;exact ⟨_,rfl,.str _⟩
   |3,hp=>cases hp;exact ⟨_,rfl,r3⟩
   |4,hp=>cases hp;exact ⟨_,rfl,r4⟩
   |5,hp=>cases hp;exact ⟨_,rfl,r5⟩
   |k+6,hp=>simp [dg] at hp
  ·show aD _≤_
   rw [aD]
   simp only [List.map_cons,List.map_nil,Rows.uptoBulk,Rows.uptoBulkAll]
   omega
  ·simp only [List.map_cons,List.map_nil,Rows.uptoBulk,Rows.uptoBulkAll] at hb
   show OkT _
   rw [OkT,okK_iff]
   exact ⟨⟨k0,k1,by omega,k3,by omega,by omega,by omega⟩,q4 (by omega),q5 (by omega)⟩
 ·obtain ⟨xs,m,hm,hx,hl,hlen,hf⟩:=DataW.trod_struct Tryz.underlying48 h
  obtain rfl:n=m:=by omega
  injection hx with hx _
  subst hx
  have hl2:cs.length=2:=hl.trans (by kernel_rfl)
  match cs,hl2,xs,hlen with
  |[a0,a1],_,[y0,y1],_=>
  have h0:=hf 0 _ rfl
  have h1:=hf 1 _ rfl
  simp [c22,c23] at h0 h1
  obtain ⟨v3,l3,e3,r3,k3,m3⟩:=K0 (o:=o) (g:=g) hN h0
  obtain ⟨v4,l4,e4,r4,k4,m4,q4⟩:=iK _ _ _ h1
  obtain rfl:a0=v3:=by simpa using e3
  obtain rfl:a1=v4:=by simpa using e4
  refine ⟨Br.mk l3 l4,fun k p hp=> ?_, ?_,fun hb=> ?_⟩
  ·match k,hp with
   |0,hp=>cases hp;exact ⟨_,rfl,r3⟩
   |1,hp=>cases hp;exact ⟨_,rfl,r4⟩
   |k+2,hp=>simp [dg] at hp
  ·show mu _≤_
   rw [mu]
   simp only [List.map_cons,List.map_nil,Rows.uptoBulk,Rows.uptoBulkAll]
   omega
  ·simp only [List.map_cons,List.map_nil,Rows.uptoBulk,Rows.uptoBulkAll] at hb
   exact ⟨⟨k3,by show l3.length<_;omega,by show l4.length<_;omega⟩,q4 (by omega)⟩
 ·obtain ⟨v,l,ds,rfl,hr,hl,hq,hb⟩:=CR (e:=ET.T) (Q:=fun x d=>QT (show Tm from x) d) hN Tryz.underlying23 (by kernel_rfl) iT h
  obtain ⟨s1,s2⟩:=ahI (l:=l) hl hq
  have:=Ad (l:=ds)
  have hl': @List.length Tm l=ds.length:=hl
  exact ⟨v,l,rfl,hr,by omega,by omega,fun hd=>s2 (by omega)⟩
 ·obtain ⟨v,l,ds,rfl,hr,hl,hq,hb⟩:=CR (e:=ET.B) (Q:=fun x d=>QB (show Br Tm from x) d) hN Tryz.underlying24 (by kernel_rfl) iB h
  obtain ⟨s1,s2⟩:=ahJ (l:=l) hl hq
  have:=Ad (l:=ds)
  have hl': @List.length (Br Tm) l=ds.length:=hl
  exact ⟨v,l,rfl,hr,by omega,by omega,fun hd=>s2 (by omega)⟩
end
end Go.Proofs.YtgajalidbabccaaGreatDoor
namespace Go.Proofs
open Go.Shelf
def Tryz.sortCl_ren:Go.Shelf.Ren:=⟨fun|6=>230|15=>280|14=>279|28=>311|29=>312|20=>303|21=>304|22=>305|23=>306|24=>307|25=>308|26=>309|27=>310|46=>328|47=>329|48=>330|49=>331|50=>332|57=>338|n=>n,fun|22=>22|24=>53|25=>177|3=>3|39=>178|0=>0|53=>51|55=>197|4=>4|46=>213|45=>212|50=>217|5=>5|9=>9|66=>221|70=>225|76=>231|77=>63|n=>n,fun|n=>n⟩
theorem Tryz.sortCl:Go.Proofs.SlLaysF0.n6 Tryz.prog Tryz.sortCl_ren:={
 mixed:=by kernel_rfl
 f6:=⟨Tryz.f230.name,by decide,Tryz.func230.trans (congrArg some (by kernel_rfl))⟩
 f14:=⟨Tryz.f279.name,by decide,Tryz.func279.trans (congrArg some (by kernel_rfl))⟩
 f15:=Tryz.func280.trans (congrArg some (by kernel_rfl))
 f20:=⟨Tryz.f303.name,by decide,Tryz.func303.trans (congrArg some (by kernel_rfl))⟩
 f21:=⟨Tryz.f304.name,by decide,Tryz.func304.trans (congrArg some (by kernel_rfl))⟩
 f22:=⟨Tryz.f305.name,by decide,Tryz.func305.trans (congrArg some (by kernel_rfl))⟩
 f23:=⟨Tryz.f306.name,by decide,Tryz.func306.trans (congrArg some (by kernel_rfl))⟩
 f24:=⟨Tryz.f307.name,by decide,Tryz.func307.trans (congrArg some (by kernel_rfl))⟩
 f25:=⟨Tryz.f308.name,by decide,Tryz.func308.trans (congrArg some (by kernel_rfl))⟩
 f26:=⟨Tryz.f309.name,by decide,Tryz.func309.trans (congrArg some (by kernel_rfl))⟩
 f27:=⟨Tryz.f310.name,by decide,Tryz.func310.trans (congrArg some (by kernel_rfl))⟩
 f28:=Tryz.func311.trans (congrArg some (by kernel_rfl))
 f29:=Tryz.func312.trans (congrArg some (by kernel_rfl))
 f46:=⟨Tryz.f328.name,by decide,Tryz.func328.trans (congrArg some (by kernel_rfl))⟩
 f47:=Tryz.func329.trans (congrArg some (by kernel_rfl))
 f48:=Tryz.func330.trans (congrArg some (by kernel_rfl))
 f49:=⟨Tryz.f331.name,by decide,Tryz.func331.trans (congrArg some (by kernel_rfl))⟩
 f50:=⟨Tryz.f332.name,by decide,Tryz.func332.trans (congrArg some (by kernel_rfl))⟩
 f57:=⟨Tryz.f338.name,by decide,Tryz.func338.trans (congrArg some (by kernel_rfl))⟩
 t0:=Tryz.underlying0
 a0:=Tryz.isAgg0
 z0:=Tryz.sizeOf0
 v0:=Tryz.zeroValue0
 t3:=Tryz.underlying3
 a3:=Tryz.isAgg3
 z3:=Tryz.sizeOf3
 v3:=Tryz.zeroValue3
 t4:=Tryz.underlying4
 a4:=Tryz.isAgg4
 z4:=Tryz.sizeOf4
 v4:=Tryz.zeroValue4
 t5:=Tryz.underlying5
 a5:=Tryz.isAgg5
 z5:=Tryz.sizeOf5
 v5:=Tryz.zeroValue5
 t9:=Tryz.underlying9
 a9:=Tryz.isAgg9
 z9:=Tryz.sizeOf9
 v9:=Tryz.zeroValue9
 t22:=Tryz.underlying22
 a22:=Tryz.isAgg22
 z22:=Tryz.sizeOf22
 v22:=Tryz.zeroValue22
 t25:=Tryz.underlying177
 a25:=Tryz.isAgg177
 z25:=Tryz.sizeOf177
 v25:=Tryz.zeroValue177
 t39:=Tryz.underlying178
 a39:=Tryz.isAgg178
 z39:=Tryz.sizeOf178
 v39:=Tryz.zeroValue178
 t45:=Tryz.underlying212
 a45:=Tryz.isAgg212
 z45:=Tryz.sizeOf212
 v45:=Tryz.zeroValue212
 t46:=Tryz.underlying213
 a46:=Tryz.isAgg213
 z46:=Tryz.sizeOf213
 v46:=Tryz.zeroValue213
 t50:=Tryz.underlying217
 a50:=Tryz.isAgg217
 z50:=Tryz.sizeOf217
 v50:=Tryz.zeroValue217
 t53:=Tryz.underlying51
 a53:=Tryz.isAgg51
 z53:=Tryz.sizeOf51
 v53:=Tryz.zeroValue51
 t55:=Tryz.underlying197
 a55:=Tryz.isAgg197
 z55:=Tryz.sizeOf197
 v55:=Tryz.zeroValue197
 t66:=Tryz.underlying221
 a66:=Tryz.isAgg221
 z66:=Tryz.sizeOf221
 v66:=Tryz.zeroValue221
 t70:=Tryz.underlying225
 a70:=Tryz.isAgg225
 z70:=Tryz.sizeOf225
 v70:=Tryz.zeroValue225
 t76:=Tryz.underlying231
 a76:=Tryz.isAgg231
 z76:=Tryz.sizeOf231
 v76:=Tryz.zeroValue231
 t77:=Tryz.underlying63
 a77:=Tryz.isAgg63
 z77:=Tryz.sizeOf63
 v77:=Tryz.zeroValue63}
end Go.Proofs
namespace Go.Proofs.YtgajalidbabccaaGreatDoor
open Go PI
set_option linter.unusedVariables false
set_option maxRecDepth 100000
noncomputable section
def aal:Nat:=314
def aam:Nat:=91
noncomputable def DQ {S:Type}:List PU→List (Box UU)→(Out UU→Option S)→Option S
 |[.sl .C y0 .none],[],κ=>xe y0 fun r=>κ (.ret (bq r .none) [])
 |_,_,_=> .none
noncomputable def DP {S:Type}:List PU→List (Box UU)→(Out UU→Option S)→Option S
 |[.int .u32 y0],[],κ=>sE y0 fun r=>κ (.ret (jt r .none) [])
 |_,_,_=> .none
end
end Go.Proofs.YtgajalidbabccaaGreatDoor
namespace Go.Proofs
open Go.Shelf Go.RowKit
set_option maxHeartbeats 1000000 in
theorem Tryz.tz32_core (x k idx:Nat) (w:World) (hx0:((x:Int)==0)=false)
  (key:bits BinOp.and IntKind.u32 (x:Int) (-(x:Int)%4294967296)*125613361%4294967296/134217728=(idx:Int))
  (hi:idx<32) (hk:k<32) (hcell:w.cell? ⟨0,idx,none⟩=some (.int .u8 k)):
  Calls Tryz.prog 340 #[.int .u32 x] w fun e w'=>e= .returned (.int .i64 k)∧w'=w:=by
 go_enter Tryz.func340,Tryz.ntmps340
 go_wp2_with (simp only [key])
 go_ret
 exact ⟨rfl,rfl⟩
theorem Tryz.tz32 (x:Nat) (hx:x<4294967296) (h0:x≠0) (w:World) (hT:TabAt 0 Lib.deBruijn32tab w):
  Calls Tryz.prog 340 #[.int .u32 x] w fun e w'=>e= .returned (.int .i64 (Lib.ctz 32 x))∧w'=w:=by
 obtain ⟨hlow,hk⟩:=Lib.lowest_bit 32 x h0 hx
 obtain ⟨hi,htab⟩:=Lib.deBruijn32_at _ hk
 have hcell:=hT _ hi
 rw [htab] at hcell
 exact Tryz.tz32_core x _ _ w (by simp;omega) (tz32_key x _ hx h0 hlow) hi hk hcell
end Go.Proofs
namespace Go.Proofs.YtgajalidbabccaaGreatDoor
open Go Go.Shelf Go.RowKit
attribute [local go_sem] Oper.semAt_some
def dX (s:Nat):List Nat:=(List.range 24).filter s.testBit
theorem ajh (s:Nat) (h0:s≠0) (h:s<16777216):dX s=Lib.ctz 32 s::dX (s&&&(s-1))∧s&&&(s-1)<s:=by
 obtain ⟨m,hm,hk⟩:=Lib.ctzFrom_spec 32 s (by omega) (by omega)
 have e:Lib.ctz 32 s=Lib.ctzFrom 32 s:=by simp [Lib.ctz,h0]
 rw [e]
 generalize Lib.ctzFrom 32 s=t at hm hk
 have hs:s=2^(t+1)*m+2^t:=by
  rw [hm,Nat.mul_add,Nat.mul_one,Nat.pow_succ,←Nat.mul_assoc]
 have hp:0<2^t:=Nat.two_pow_pos t
 have hp2:2^(t+1)=2^t*2:=Nat.pow_succ 2 t
 have hs1:s-1=2^(t+1)*m+(2^t-1):=by omega
 have b1: ∀j,s.testBit j=if j<t+1 then decide (t=j) else m.testBit (j-(t+1)):=fun j=>by
  rw [hs,Nat.testBit_two_pow_mul_add _ (by omega),Nat.testBit_two_pow]
 have b2: ∀j,(s-1).testBit j=if j<t+1 then decide (j<t) else m.testBit (j-(t+1)):=fun j=>by
  rw [hs1,Nat.testBit_two_pow_mul_add _ (by omega),Nat.testBit_two_pow_sub_one]
 have b3: ∀j,(s&&&(s-1)).testBit j=if j<t+1 then false else m.testBit (j-(t+1)):=fun j=>by
  rw [Nat.testBit_and,b1,b2]
  by_cases hj:j<t+1
  ·rw [if_pos hj,if_pos hj,if_pos hj]
   by_cases ht:t=j
   ·rw [decide_eq_true ht,decide_eq_false (by omega)];rfl
   ·rw [decide_eq_false ht];rfl
  ·rw [if_neg hj,if_neg hj,if_neg hj,Bool.and_self]
 have b4:s&&&(s-1)=2^(t+1)*m:=by
  apply Nat.eq_of_testBit_eq
  intro j
  rw [b3]
  have:2^(t+1)*m=2^(t+1)*m+0:=rfl
  rw [this,Nat.testBit_two_pow_mul_add _ (by omega),Nat.zero_testBit]
 have ht:t<24:=by
  apply Nat.lt_of_not_le
  intro hle
  have:2^24≤2^t:=Nat.pow_le_pow_right (by decide) hle
  have h24:(2:Nat)^24=16777216:=by decide
  omega
 refine ⟨?_,by omega⟩
 unfold dX
 have hr:List.range 24=List.range t++(t::(List.range (23-t)).map (fun j=>t+1+j)):=by
  apply List.ext_getElem
  ·simp;omega
  ·intro i h1 h2
   simp only [List.getElem_range]
   by_cases hi:i<t
   ·rw [List.getElem_append_left (by simpa using hi)];simp
   ·rw [List.getElem_append_right (by simpa using hi)]
    simp only [List.length_range]
    by_cases he:i=t
    ·subst he;simp
    ·obtain ⟨d,rfl⟩: ∃d,i=t+1+d:=⟨i-t-1,by omega⟩
     simp only [show t+1+d-t=d+1 by omega,List.getElem_cons_succ,List.getElem_map,List.getElem_range]
 rw [hr,List.filter_append,List.filter_append]
 have f1:(List.range t).filter s.testBit=[]:=List.filter_eq_nil_iff.2 fun j hj=>by
  have:=List.mem_range.1 hj
  rw [b1,if_pos (by omega),decide_eq_false (by omega)];decide
 have f2:(List.range t).filter (s&&&(s-1)).testBit=[]:=List.filter_eq_nil_iff.2 fun j hj=>by
  have:=List.mem_range.1 hj
  rw [b3,if_pos (by omega)];decide
 rw [f1,f2,List.nil_append,List.nil_append,List.filter_cons_of_pos (by rw [b1,if_pos (by omega)];simp),List.filter_cons_of_neg (by rw [b3,if_pos (by omega)];decide)]
 congr 1
 apply List.filter_congr
 intro j hj
 obtain ⟨d,_,rfl⟩:=List.mem_map.1 hj
 rw [b1,b3,if_neg (by omega),if_neg (by omega)]
theorem ajf:dX 0=[]:=List.filter_eq_nil_iff.2 fun j _=>by rw [Nat.zero_testBit];decide
theorem ajg (s:Nat):(dX s).length≤24:=by
 have:=List.length_filter_le s.testBit (List.range 24)
 simpa [dX] using this
theorem aaQ (s:Int) (w:World):Calls Tryz.prog 333 #[.int .u32 s] w fun e w'=>e= .returned (.func (.func 339) #[] #[.pointer (some ⟨w.heap.size,0,none⟩)])∧w'=w.alloc (.cells #[.int .u32 s] 51):=by
 go_enter Tryz.func333,Tryz.ntmps333
 go_wp2
 go_ret
 exact ⟨rfl,rfl⟩
def Cm:Code:=(Code.region 3 #[{dst:=some 4,op:=Op.assign (Operand.tmp 7),type:=3,pos:= "mask.go:57",after:= #[],guard:=none}] false)
def Cn:Code:=(Code.block 1 (Code.region 4 #[{dst:=some 8,op:=Op.load 98 (Operand.tmp 3),type:=98,pos:= "mask.go:58",after:= #[],guard:=none},{dst:=some 9,op:=Op.move (Operand.tmp 4),type:=3,pos:= "mask.go:58",after:= #[],guard:=none},{dst:=some 10,op:=Op.buildSlice 98 1 #[(0,Operand.tmp 9)],type:=98,pos:= "mask.go:58",after:= #[{on:=1,ground:=Ground.data}],guard:=none},{dst:=some 11,op:=Op.call {callee:=Callee.builtin Builtin.append,args:= #[Operand.tmp 8,Operand.tmp 10],argTypes:= #[98,98]},type:=98,pos:= "mask.go:58",after:= #[{on:=0,ground:=Ground.data},{on:=2,ground:=Ground.data}],guard:=none},{dst:=none,op:=Op.store 98 (Operand.tmp 3) (Operand.tmp 11),type:=0,pos:= "mask.go:58",after:= #[{on:=3,ground:=Ground.data},{on:=3,ground:=Ground.chain},{on:=0,ground:=Ground.phase},{on:=1,ground:=Ground.phase},{on:=2,ground:=Ground.phase},{on:=3,ground:=Ground.phase}],guard:=none}] false))
def gn (fn:FuncId) (s0:Int) (fv:Value) (Bo D:Nat) (st:LoopState) (pend:Option Code):Loop:=
 {state:=st,pending:=pend,fn,tmps:= #[.int .u32 s0,undef,.slice none 0 0,.pointer (some ⟨Bo,0,none⟩),undef,.int .u32 s0,fv,undef,undef,undef,undef,undef,undef],params:= #[7],assign:=Cm,body:=Cn,defers:=D}
def er (x:Nat):Value:= .int .i64 (x:Int)
structure LsAt (w0:World) (fn:FuncId) (s0:Int) (fv:Value) (Bo l D:Nat) (ss:List Nat) (W:World):Prop where
 box: ∃v,W.heap[Bo]? =some (.cells #[v] 98 (0,0))∧W.ownsRow w0.heap.size 3 1 v ss.length (ss.map er)
 L:W.heap[l]? =some (.loop (gn fn s0 fv Bo D .ready none))
 K:W.heap[D]? =some (.deferred (some []))
 below:Below w0.heap.size w0 W
theorem oB (W:World) (l:Nat) (o:Obj):W.grownBy (W.putObj l o) (some l):=
 ⟨rfl,rfl,rfl,by simp,fun k _ hk=>World.putObj_heap_other (fun e=>hk (by rw [e]))⟩
theorem D8 (W:World) (b:Nat) (v:Value):W.grownBy (W.setCell ⟨b,0,none⟩ v) (some b):=
 ⟨rfl,rfl,rfl,(KeepsWalks.setCell W _ v).size,fun k _ hk=>Below.heap_setCell _ _ _ k (fun e=>hk (by rw [e]))⟩
theorem ko {W:World} {base:Nat} {e:TypeId} {size:Nat} {v:Value} {k:Nat} {xs:List Value} (h:W.ownsRow base e size v k xs) {j:Nat} {o:Obj} (hj:W.heap[j]? =some o) (hno: ∀cur,o≠ .cells cur e (0,0)):
  v.ownBlock=none∨v.ownBlock≠some j:=by
 rcases h.2 with ⟨rfl,_⟩|⟨g,cap,cur,rfl,_,hgb,_⟩
 ·exact .inl rfl
 ·refine .inr fun e'=> ?_
  have:g=j:=by simpa [Value.ownBlock] using e'
  subst this;rw [hgb] at hj;cases hj;exact hno cur rfl
theorem la {W:World} {B:Nat} {v:Value} {t:TypeId} (h:W.heap[B]? =some (.cells #[v] t (0,0))):W.cell? ⟨B,0,none⟩=some v∧W.frozen? ⟨B,0,none⟩=false:=by
 constructor<;>simp [World.cell?,World.frozen?,h]
theorem Ab {W:World} {B:Nat} {v:Value} {t:TypeId} (v':Value) (h:W.heap[B]? =some (.cells #[v] t (0,0))):(W.setCell ⟨B,0,none⟩ v').heap[B]? =some (.cells #[v'] t (0,0)):=by
 obtain ⟨hlt,hk⟩:=Array.getElem?_eq_some_iff.1 h
 show (W.heap.modify B _)[B]? =_
 rw [Array.getElem?_eq_getElem (by rw [Array.size_modify];exact hlt),Array.getElem_modify_self,hk]
 rfl
theorem aaS:(Tryz.prog.info? 3).map (fun i=>(i.zero,i.size,i.bytes))=some (some (.int .i64 0),1,8):=by kernel_rfl
set_option maxRecDepth 100000 in
set_option maxHeartbeats 2000000 in
theorem adT (F:Fence) (m:Nat) (w0:World) (fn:FuncId) (hfn:F.fn fn) (s0:Int) (fv:Value) (Bo Bi l D:Nat) (hBl:Bo≠l) (hDl:D≠l) (hDB:D≠Bo) (hBiBo:Bi≠Bo) (hBil:Bi≠l) (h0B:w0.heap.size≤Bo) (h0l:w0.heap.size≤l)
  (ss:List Nat) (x:Nat) (c:Value) (W:World) (h:LsAt w0 fn s0 fv Bo l D ss W) (hi0:W.heap[Bi]? =some (.cells #[c] 51 (0,0))) (hlen:ss.length<24):
  YieldAt F m Tryz.prog l #[er x] W fun e W'=>e= .returned (.bool true)∧LsAt w0 fn s0 fv Bo l D (ss++[x]) W'∧W'.heap[Bi]? =some (.cells #[c] 51 (0,0)):=by
 obtain ⟨i0,hi,hz0,hz1,hz2⟩:=info_parts aaS
 obtain ⟨v,hv,hrow⟩:=h.box
 refine ⟨fn,#[.int .u32 s0,undef,.slice none 0 0,.pointer (some ⟨Bo,0,none⟩),undef,.int .u32 s0,fv,.int .i64 (x:Int),undef,undef,undef,undef,undef],Cm,Cn,by simpa [gn,er] using run_yield (P:=Tryz.prog) (args:= #[er x]) h.L rfl,roundIn_of_wpIn hfn ?_⟩
 have hl:l<W.heap.size:=(Array.getElem?_eq_some_iff.1 h.L).1
 have hbr:=run_beginRound (P:=Tryz.prog) h.L rfl
 obtain ⟨W2,hW2⟩: ∃W2,W.putObj l (.loop {gn fn s0 fv Bo D .ready none with state:= .busy})=W2:=⟨_,rfl⟩
 rw [hW2] at hbr
 have hg2:W.grownBy W2 (some l):=by rw [←hW2];exact oB _ _ _
 have hv2:W2.heap[Bo]? =some (.cells #[v] 98 (0,0)):=by rw [←hW2];exact (World.putObj_heap_other hBl).trans hv
 have hi2:W2.heap[Bi]? =some (.cells #[c] 51 (0,0)):=by rw [←hW2];exact (World.putObj_heap_other hBil).trans hi0
 have hK2:W2.heap[D]? =some (.deferred (some [])):=by rw [←hW2];exact (World.putObj_heap_other hDl).trans h.K
 have hL2:W2.heap[l]? =some (.loop {gn fn s0 fv Bo D .ready none with state:= .busy}):=by rw [←hW2];exact World.putObj_heap_same hl
 have hrow2:W2.ownsRow w0.heap.size 3 1 v ss.length (ss.map er):=hrow.kept hg2 (ko hrow h.L (fun cur e=>by cases e))
 have hb2:Below w0.heap.size w0 W2:=h.below.grown hg2 h.below.size (fun k e=>by cases e;exact h0l)
 obtain ⟨hc2,hf2⟩:=la hv2
 have hBlt:Bo<W2.heap.size:=(Array.getElem?_eq_some_iff.1 hv2).1
 have hBilt:Bi<W2.heap.size:=(Array.getElem?_eq_some_iff.1 hi2).1
 have hl2:l<W2.heap.size:=(Array.getElem?_eq_some_iff.1 hL2).1
 have hDlt:D<W2.heap.size:=(Array.getElem?_eq_some_iff.1 hK2).1
 have ne_of: ∀ {j:Nat} {o:Obj},W2.heap[j]? =some o→(∀cur,o≠ .cells cur 3 (0,0))→some j≠v.ownBlock:=fun hj hno=>by
  rcases ko hrow2 hj hno with e|e
  ·rw [e];simp
  ·exact fun e'=>e e'.symm
 clear hW2
 have hml:24≤maxLen:=by unfold maxLen;omega
 unfold Cm
 gi_wp2_with (rw [Oper.semAt_eq _ _ _ (fun c h=>by cases h)];go_simp;try go_bits)
 unfold Cn
 gi_wp2_with (first
  |(gi_at_builtin;refine wpListIn_append_own _ rfl _ _ 98 rfl w0.heap.size 3 i0 (.int .i64 0) 1 8 Tryz.underlying98 hi hz0 hz1 hz2 rfl (by decide) _ _ _ rfl (hrow2.alloc _) ⟨W2.heap.size,0,none⟩ 1 1 [er x] rfl rfl (cell_one_new _ _ _) (by simp [Value.oneCell',er]) (by omega) (by omega) (by have:=hb2.size;simp;omega) ?_;intro v' w3 hown' hg3 hnil3
    have hv3:w3.heap[Bo]? =some (.cells #[v] 98 (0,0)):=(hg3.block Bo (by simp;omega) (ne_of hv2 (fun cur e=>by cases e))).trans ((Below.heap_alloc _ _ Bo hBlt).trans hv2)
    obtain ⟨hc3,hf3⟩:=la hv3
    obtain ⟨g',cap',cur',rfl,hbase',hgb',hr1,hr2,hr3,hr4⟩: ∃g' cap' cur',v'= .slice (some ⟨g',0,none⟩) (ss.length+1) cap'∧w0.heap.size≤g'∧w3.heap[g']? =some (.cells cur' 3 (0,0))∧ss.length+1≤cap'∧cap'≤maxLen∧cur'.size=cap'*1∧cur'.toList.take ((ss.length+1)*1)=ss.map er++[er x]:=by
     rcases hown'.2 with ⟨_,h0⟩|h'
     ·exact absurd h0 (by omega)
     ·exact h'
    go_frame)
  |(rw [Oper.semAt_eq _ _ _ (fun c h=>by cases h)];go_simp;try go_bits))
 have hg3':(W2.alloc (.cells #[er x] 3)).grownBy w3 v.ownBlock:=hg3
 have hL3:w3.heap[l]? =some (.loop {gn fn s0 fv Bo D .ready none with state:= .busy}):=(hg3'.block l (by simp;omega) (ne_of hL2 (fun cur e=>by cases e))).trans ((Below.heap_alloc _ _ l hl2).trans hL2)
 have hK3:w3.heap[D]? =some (.deferred (some [])):=(hg3'.block D (by simp;omega) (ne_of hK2 (fun cur e=>by cases e))).trans ((Below.heap_alloc _ _ D hDlt).trans hK2)
 have hi3:w3.heap[Bi]? =some (.cells #[c] 51 (0,0)):=(hg3'.block Bi (by simp;omega) (ne_of hi2 (fun cur e=>by cases e))).trans ((Below.heap_alloc _ _ Bi hBilt).trans hi2)
 obtain ⟨w4,hw4⟩: ∃w4,w3.setCell ⟨Bo,0,none⟩ (.slice (some ⟨g',0,none⟩) (ss.length+1) cap')=w4:=⟨_,rfl⟩
 rw [hw4]
 have hg4:w3.grownBy w4 (some Bo):=by rw [←hw4];exact D8 _ _ _
 have hv4:w4.heap[Bo]? =some (.cells #[.slice (some ⟨g',0,none⟩) (ss.length+1) cap'] 98 (0,0)):=by rw [←hw4];exact Ab _ hv3
 have hL4:w4.heap[l]? =some (.loop {gn fn s0 fv Bo D .ready none with state:= .busy}):=(hg4.block l (Array.getElem?_eq_some_iff.1 hL3).1 (fun e=>hBl (by cases e;rfl))).trans hL3
 have hK4:w4.heap[D]? =some (.deferred (some [])):=(hg4.block D (Array.getElem?_eq_some_iff.1 hK3).1 (fun e=>hDB (by cases e;rfl))).trans hK3
 have hi4:w4.heap[Bi]? =some (.cells #[c] 51 (0,0)):=(hg4.block Bi (Array.getElem?_eq_some_iff.1 hi3).1 (fun e=>hBiBo (by cases e;rfl))).trans hi3
 have hrow4:=hown'.kept hg4 (ko hown' hv3 (fun cur e=>by cases e))
 have hl4:l<w4.heap.size:=(Array.getElem?_eq_some_iff.1 hL4).1
 have hb3:Below w0.heap.size w0 w3:=(hb2.alloc hb2.size _).grown hg3' (by have:=hb2.size;simp;omega) (fun k e=>(hrow2.lt k e).1)
 have hb4:Below w0.heap.size w0 w4:=hb3.grown hg4 hb3.size (fun k e=>by cases e;exact h0B)
 clear hw4
 refine ⟨_,_,run_endRound none hL4,rfl,⟨⟨_,(World.putObj_heap_other hBl).trans hv4, ?_⟩,World.putObj_heap_same hl4,(World.putObj_heap_other hDl).trans hK4,hb4.grown (oB _ _ _) hb4.size (fun k e=>by cases e;exact h0l)⟩,(World.putObj_heap_other hBil).trans hi4⟩
 have:=hrow4.kept (oB w4 l (.loop {{gn fn s0 fv Bo D .ready none with state:= .busy} with state:=if (none:Option Code).isNone then .ready else .done,pending:=none})) (ko hrow4 hL4 (fun cur e=>by cases e))
 simpa using this
def Cb (Bi:Nat) (w:World):Nat:=match w.cell? ⟨Bi,0,none⟩ with
 |some v=>(intOf v).toNat
 |none=>0
theorem I1 {Bi:Nat} {w:World} {n:Nat} {t:TypeId} (h:w.heap[Bi]? =some (.cells #[.int .u32 (n:Int)] t (0,0))):Cb Bi w=n:=by
 unfold Cb;rw [(la h).1];simp [intOf]
theorem WJ {w0 W:World} (hT:TabAt 0 Lib.deBruijn32tab w0) (hb:Below w0.heap.size w0 W):TabAt 0 Lib.deBruijn32tab W:=fun j hj=>by
 have h:=hT j hj
 have h0:0<w0.heap.size:=World.block_lt_of_cell? w0 ⟨0,j,none⟩ h
 exact (hb.cell (p:=⟨0,j,none⟩) h0).trans h
theorem WX (s:Int):bits .and .u32 s 16777215=(((BitVec.ofInt 32 s).toNat&&&16777215:Nat):Int):=by
 have hx:(BitVec.ofInt 32 s).toNat&&&16777215<2^32:=Nat.and_lt_two_pow _ (by omega)
 show IntKind.u32.wrap ((BitVec.ofInt 32 s&&&BitVec.ofInt 32 16777215).toNat:Int)=_
 rw [BitVec.toNat_and,wrap_u32',show (BitVec.ofInt 32 16777215).toNat=16777215 from by decide]
 omega
def gm (s:Int):Nat:=(BitVec.ofInt 32 s).toNat&&&16777215
theorem WY (s:Nat) (h0:s≠0) (h:s<4294967296):bits .and .u32 (s:Int) ((s:Int)-1)=((s&&&(s-1):Nat):Int):=by
 have:(s:Int)-1=((s-1:Nat):Int):=by omega
 rw [this];exact bits_and_u32_nat s (s-1) h (by omega)
set_option maxRecDepth 100000 in
set_option maxHeartbeats 2000000 in
theorem adS (F:Fence) (n:Nat) (h339:F.fn 339) (h340:F.fn 340) (hro:F.round=none) (hn:1≤n) (w0:World) (fn:FuncId) (hfn:F.fn fn) (s0:Int) (fv:Value) (Bo Bi l D:Nat) (hBl:Bo≠l) (hDl:D≠l) (hDB:D≠Bo) (hBiBo:Bi≠Bo) (hBil:Bi≠l) (hBiD:Bi≠D)
  (h0B:w0.heap.size≤Bo) (h0l:w0.heap.size≤l) (h0i:w0.heap.size≤Bi) (hT:TabAt 0 Lib.deBruijn32tab w0) (s:Int) (W:World) (h:LsAt w0 fn s0 fv Bo l D [] W) (hi0:W.heap[Bi]? =some (.cells #[.int .u32 s] 51 (0,0)))
  (htz: ∀ (x:Nat),x<4294967296→x≠0→ ∀W',TabAt 0 Lib.deBruijn32tab W'→CallsIn F (n-1) Tryz.prog 340 #[.int .u32 x] W' fun e w'=>e= .returned (.int .i64 (Lib.ctz 32 x))∧w'=W'):
  CallsIn F n Tryz.prog 339 #[.func (.yield l) #[] #[],.pointer (some ⟨Bi,0,none⟩)] W fun e W'=>(∃v,e= .returned v)∧LsAt w0 fn s0 fv Bo l D (dX (gm s)) W':=by
 obtain ⟨hc0,hf0⟩:=la hi0
 have ha:bits .and .u32 s 16777215=((gm s:Nat):Int):=WX s
 have hsl:gm s<16777216:=Nat.lt_of_le_of_lt Nat.and_le_right (by decide)
 generalize gm s=q at ha hsl ⊢
 refine callsIn_of_wp Tryz.func339 rfl h339 ?_ hro
 simp only [Tryz.ntmps339,List.size_toArray,List.length_cons,List.length_nil,Nat.reduceAdd,Nat.reduceSub,Array.replicate_succ,Array.replicate_zero,List.push_toArray,List.append_toArray,List.nil_append,List.cons_append]
 gi_wp2
 have hi1:=Ab (.int .u32 (q:Int)) hi0
 have hA1:LsAt w0 fn s0 fv Bo l D [] (W.setCell ⟨Bi,0,none⟩ (.int .u32 (q:Int))):=by
  obtain ⟨v,hv,hrow⟩:=h.box
  exact ⟨⟨v,(Below.heap_setCell _ _ _ Bo (fun e=>hBiBo e.symm)).trans hv,hrow.kept (D8 _ _ _) (ko hrow hi0 (fun cur e=>by cases e))⟩,(Below.heap_setCell _ _ _ l (fun e=>hBil e.symm)).trans h.L,(Below.heap_setCell _ _ _ D (fun e=>hBiD e.symm)).trans h.K,h.below.setCell h0i _⟩
 gi_loopw [] (fun wr=> ∃ (pre:List Nat) (c:Nat),c<16777216∧pre++dX c=dX q∧LsAt w0 fn s0 fv Bo l D pre wr∧wr.heap[Bi]? =some (.cells #[.int .u32 (c:Int)] 51 (0,0)))
  (fun wr=>Cb Bi wr)
 case atStart=>exact ⟨[],q,hsl,rfl,hA1,hi1⟩
 case round=>
  obtain ⟨pre,c,hc,hp,hA,hb⟩:=hrel
  clear hc0 hf0 ha hi1 hA1
  obtain ⟨hc1,hf1⟩:=la hb
  by_cases hz:c=0
  ·subst hz
   rw [ajf,List.append_nil] at hp
   gi_wp2
   go_end0
   exact ⟨⟨_,rfl⟩,hp▸hA⟩
  ·have hne:((c:Int)==0)=false:=by simp;omega
   have hne': ¬ ((c:Int)=0):=by omega
   have hstep:=ajh c hz hc
   have hpl:pre.length<24:=by
    have h1:=ajg q
    have h2:=congrArg List.length hp
    rw [hstep.1,List.length_append,List.length_cons] at h2
    omega
   obtain ⟨fn',tmps,assign,body,hy,hR⟩:=adT F (n-1) w0 fn hfn s0 fv Bo Bi l D hBl hDl hDB hBiBo hBil h0B h0l pre (Lib.ctz 32 c) (.int .u32 (c:Int)) wr hA hb hpl
   have hT1:=WJ hT hA.below
   have hap:=WY c hz (by omega)
   unfold er at hy
   have hyH:Hid (Lib.ctz 32 c=Lib.ctz 32 c):=rfl
   gi_wp2_with (gi_at_call 340;refine (htz c (by omega) hz _ hT1).mono ?_;rintro e w' ⟨rfl,rfl⟩)
   refine hR.mono ?_
   rintro e W3 ⟨rfl,hA3,hb3⟩
   obtain ⟨hc3,hf3⟩:=la hb3
   clear hc1 hf1 hA hy hR hT1
   gi_wp2
   have hb4:=Ab (.int .u32 ((c&&&(c-1):Nat):Int)) hb3
   have hlt:=hstep.2
   go_roundw
   case rel=>
    refine ⟨pre++[Lib.ctz 32 c],c&&&(c-1),by omega, ?_, ?_,hb4⟩
    ·rw [←hp,hstep.1,List.append_assoc];rfl
    ·obtain ⟨v,hv,hrow⟩:=hA3.box
     exact ⟨⟨v,(Below.heap_setCell _ _ _ Bo (fun e=>hBiBo e.symm)).trans hv,hrow.kept (D8 _ _ _) (ko hrow hb3 (fun cur e=>by cases e))⟩,(Below.heap_setCell _ _ _ l (fun e=>hBil e.symm)).trans hA3.L,(Below.heap_setCell _ _ _ D (fun e=>hBiD e.symm)).trans hA3.K,hA3.below.setCell h0i _⟩
   case measure=>rw [I1 hb4,I1 hb];exact hlt
set_option maxRecDepth 100000 in
set_option maxHeartbeats 2000000 in
theorem adP (F:Fence) (n:Nat) (h314:F.fn 314) (h333:F.fn 333) (h339:F.fn 339) (h340:F.fn 340) (hro:F.round=none) (hn:3≤n) (s:Int) (w:World) (hT:TabAt 0 Lib.deBruijn32tab w)
  (hin: ∀W,CallsIn F (n-1) Tryz.prog 333 #[.int .u32 s] W fun e w'=>e= .returned (.func (.func 339) #[] #[.pointer (some ⟨W.heap.size,0,none⟩)])∧w'=W.alloc (.cells #[.int .u32 s] 51))
  (htz: ∀ (x:Nat),x<4294967296→x≠0→ ∀W',TabAt 0 Lib.deBruijn32tab W'→CallsIn F (n-1-1) Tryz.prog 340 #[.int .u32 x] W' fun e w'=>e= .returned (.int .i64 (Lib.ctz 32 x))∧w'=W'):
  CallsIn F n Tryz.prog 314 #[.int .u32 s] w fun e w'=> ∃v:Value,e= .returned v∧w'.ownsRow w.heap.size 3 1 v (dX (gm s)).length ((dX (gm s)).map er)∧Below w.heap.size w w':=by
 have h1:1≤n:=by omega
 have eg: ∀args w,(callFunc 339 args).run Tryz.prog w= .ok (.enter 339 args) w:=enters_of Tryz.func339 (by kernel_rfl) rfl
 refine callsIn_of_wp_marks Tryz.func314 rfl h314 ?_ hro
 simp only [Tryz.ntmps314,List.size_toArray,List.length_cons,List.length_nil,Nat.reduceAdd,Nat.reduceSub,Array.replicate_succ,Array.replicate_zero,List.push_toArray,List.append_toArray,List.nil_append,List.cons_append]
 gi_wp2_with (gi_at_call 333;refine (hin _).mono ?_;rintro e w' ⟨rfl,rfl⟩)
 refine wpIn_rangeFunc ?_
 intro fn hfn
 rw [hro]
 obtain ⟨fv,hfv⟩: ∃fv:Value,fv= .func (.func 339) #[] #[.pointer (some ⟨w.heap.size+1,0,none⟩)]:=⟨_,rfl⟩
 obtain ⟨W0,hW0⟩: ∃W0,(w.alloc (.cells #[.slice none 0 0] 98)).alloc (.cells #[.int .u32 s] 51)=W0:=⟨_,rfl⟩
 have hs0:W0.heap.size=w.heap.size+2:=by rw [←hW0];simp
 have hv0:W0.heap[w.heap.size]? =some (.cells #[.slice none 0 0] 98 (0,0)):=by rw [←hW0];exact (Below.heap_alloc _ _ _ (by simp)).trans (World.alloc_heap_new w _)
 have hi0:W0.heap[w.heap.size+1]? =some (.cells #[.int .u32 s] 51 (0,0)):=by
  rw [←hW0];have:=World.alloc_heap_new (w.alloc (.cells #[.slice none 0 0] 98)) (.cells #[.int .u32 s] 51);rwa [World.size_alloc] at this
 have hb0:Below w.heap.size w W0:=by rw [←hW0];exact ((Below.refl _ w).alloc (Nat.le_refl _) _).alloc (by simp) _
 rw [hW0]
 obtain ⟨W1,hW1⟩: ∃W1,(W0.alloc (.deferred (some []))).alloc (.loop (gn fn s fv w.heap.size W0.heap.size .ready none))=W1:=⟨_,rfl⟩
 have hold: ∀k,k<W0.heap.size→W1.heap[k]? =W0.heap[k]? :=fun k hk=>by
  rw [←hW1];exact (Below.heap_alloc _ _ k (by simp;omega)).trans (Below.heap_alloc _ _ k hk)
 have hb1:Below w.heap.size w W1:=by rw [←hW1];exact (hb0.alloc hb0.size _).alloc (by have:=hb0.size;simp;omega) _
 have hM:LsAt w fn s fv w.heap.size (W0.heap.size+1) W0.heap.size [] W1:=
  ⟨⟨_,(hold w.heap.size (by omega)).trans hv0,⟨rfl,.inl ⟨rfl,rfl⟩⟩⟩,
   by rw [←hW1];have:=World.alloc_heap_new (W0.alloc (.deferred (some []))) (.loop (gn fn s fv w.heap.size W0.heap.size .ready none));rwa [World.size_alloc] at this,
   by rw [←hW1];exact (Below.heap_alloc _ _ _ (by simp)).trans (World.alloc_heap_new W0 _),hb1⟩
 refine ⟨W0.heap.size+1,[{target:= .collected W0.heap.size,args:= #[]}],W1,{target:= .fn (.func 339) #[.pointer (some ⟨w.heap.size+1,0,none⟩)],args:= #[.func (.yield (W0.heap.size+1)) #[] #[]]},W1,339,
  #[.func (.yield (W0.heap.size + 1)) #[] #[]] ++ #[.pointer (some ⟨w.heap.size + 1, 0, none⟩)], W1, ?_, ?_, ?_, ?_, fun _ => h1, ?_⟩
 ·rw [←hW1,hfv];exact run_enterLoop_outer _ _ _ _ _
 ·simp [resolve,go_sem]
 ·intro f' hf';simp [Target.leads] at hf';subst hf';exact h339
 ·simp [invoke,go_sem,eg]
 ·refine (adS F (n-1) h339 h340 hro (by omega) w fn hfn s fv w.heap.size (w.heap.size+1) (W0.heap.size+1) W0.heap.size (by omega) (by omega) (by omega) (by omega) (by omega) (by omega) (Nat.le_refl _) (by omega) (by omega) hT s W1 hM ((hold _ (by omega)).trans hi0) htz).mono ?_
  rintro e W2 ⟨⟨v0,rfl⟩,h2⟩
  obtain ⟨v,hv,hrow⟩:=h2.box
  have hend:=run_endLoop (P:=Tryz.prog) h2.L (by simp [gn])
  obtain ⟨W3,hW3⟩: ∃W3,W2.putObj (W0.heap.size+1) (.loop {gn fn s fv w.heap.size W0.heap.size .ready none with state:= .exhausted})=W3:=⟨_,rfl⟩
  rw [hW3] at hend
  have hg3:W2.grownBy W3 (some (W0.heap.size+1)):=by rw [←hW3];exact oB _ _ _
  have hv3:W3.heap[w.heap.size]? =some (.cells #[v] 98 (0,0)):=by rw [←hW3];exact (World.putObj_heap_other (by omega)).trans hv
  have hK3:W3.heap[W0.heap.size]? =some (.deferred (some [])):=by rw [←hW3];exact (World.putObj_heap_other (by omega)).trans h2.K
  have hrow3:=hrow.kept hg3 (ko hrow h2.L (fun cur e=>by cases e))
  have hb3:Below w.heap.size w W3:=h2.below.grown hg3 h2.below.size (fun k e=>by cases e;omega)
  obtain ⟨hc3,hf3⟩:=la hv3
  clear hW3
  refine ⟨none,W3,hend, ?_⟩
  clear hfv
  gi_wp2
  rw [show (w.heap.size+1+1)=W0.heap.size by omega]
  refine ⟨by simp,.inl ⟨_,_,rfl,run_takeDeferred hK3, ?_⟩⟩
  exact ⟨_,results_tmp rfl _ _ _,v,rfl,hrow3.kept (oB _ _ _) (ko hrow3 hK3 (fun cur e=>by cases e)),hb3.grown (oB _ _ _) hb3.size (fun k e=>by cases e;omega)⟩
end Go.Proofs.YtgajalidbabccaaGreatDoor
namespace Go.Proofs.YtgajalidbabccaaGreatDoor
open Go PI Go.Shelf Go.RowKit
set_option linter.unusedVariables false
set_option linter.unusedSimpArgs false
set_option maxRecDepth 100000
def ad (o:Obj):Prop:= ∃ (cur:Array Value) (e:TypeId) (fr:Nat×Nat),o= .cells cur e fr∧ ∀j,j<Lib.deBruijn32tab.length→cur[j]? =some (.int .u8 (Lib.deBruijn32tab.getD j 0))
theorem aiX {o:Obj} (ho:ad o) {w:World} (h:w.heap[0]? =some o):TabAt 0 Lib.deBruijn32tab w:=fun j hj=>by
 obtain ⟨cur,e,fr,rfl,hc⟩:=ho
 have:=hc j hj
 simp [World.cell?,h,this]
theorem adO (s:Int) (w:World) (hT:TabAt 0 Lib.deBruijn32tab w):Calls Tryz.prog 314 #[.int .u32 s] w fun e w'=> ∃v:Value,e= .returned v∧w'.ownsRow w.heap.size 3 1 v (dX (gm s)).length ((dX (gm s)).map er)∧Below w.heap.size w w':=
 callsIn_wide.1 (adP Fence.wide 5 trivial trivial trivial trivial rfl (by omega) s w hT (fun W=>callsIn_wide.2 (aaQ s W)) fun x hx h0 W' hT'=>callsIn_wide.2 (Tryz.tz32 x hx h0 W' hT'))
theorem adW (s:Int):ov s=(dX (gm s)).map fun n:Nat=>(n:Int):=by
 unfold ov dX gm
 have:(List.range 24).filter ((BitVec.ofInt 32 s).toNat&&&16777215).testBit=(List.range 24).filter fun i=>(BitVec.ofInt 32 s).getLsbD i:=List.filter_congr fun i hi=>by
  have hi:i<24:=List.mem_range.1 hi
  have h24:(16777215:Nat)=2^24-1:=by decide
  rw [Nat.testBit_and,h24,Nat.testBit_two_pow_sub_one,decide_eq_true hi,Bool.and_true];rfl
 rw [this];rfl
theorem W8 {X:Link VV Tryz.prog} {w w':World} {vs:Array Value} {N0:ax} {ν:Nat→Nat} {δ:Nat→Option Nat} {ο:Nat→Array Value} {args:List PU} (hg:Given X w vs N0 ν δ ο args []) (hb:Below w.heap.size w w'):
  Back X w w' N0 ν δ ο 0 args.length ν (fun _=>none) [] where
 ext:=⟨hb.os,hb.tape,hb.output,hb.size,fun b hlt _=>hb.block b hlt⟩
 le:=Nat.le_refl _
 old:=fun i h=>absurd h (Nat.not_lt_zero i)
 new:=fun i _ h=>absurd h (Nat.not_lt_zero i)
 dnew:=fun j b h=>by cases h
 bnd:={
  inj:=fun i j h=>absurd h (Nat.not_lt_zero i)
  lt:=fun i h=>absurd h (Nat.not_lt_zero i)
  dlt:=fun j b h=>by cases h
  dinj:=fun i j b h=>by cases h
  dν:=fun j b h=>by cases h
  n0:=fun b o h=>⟨Nat.lt_of_lt_of_le (hg.bnd.n0 b o h).1 hb.size,fun i h=>absurd h (Nat.not_lt_zero i),fun j h=>by cases h⟩}
 boxes:=fun k b h=>by simp at h
theorem ai9 {S:Type} (o:Obj) (ho:ad o) (vs:List PU) (bs:List (Box UU)) (κ:Out UU→Option S) (x:S) (h:DP vs bs κ=some x): ∃out,bJ (LL o) aal vs bs out∧κ out=some x:=by
 unfold DP at h
 split at h
 case h_2=>cases h
 rename_i κ y
 refine ⟨_, ?_,h⟩
 refine ⟨⟨Tryz.f314,Tryz.func314,by kernel_rfl,rfl⟩,fun w vs N0 ν δ ο hg=> ?_⟩
 have hs:vs.size=1:=hg.size
 have h0:=hg.args 0 _ rfl
 obtain ⟨v0,hv0⟩: ∃v0,vs= #[v0]:=by
  obtain ⟨l⟩:=vs
  match l,hs with
  |[v],_=>exact ⟨v,rfl⟩
 subst hv0
 have h0:Rep (LL o) w _ _ v0 (.int .u32 y):=h0
 cases h0
 have hT:=aiX ho (hg.glob 0 o (by simp [LL])).1
 refine (adO y w hT).mono ?_
 rintro e w' ⟨v,rfl,hrow,hb⟩
 refine ⟨ν,fun _=>none,W8 hg hb, ?_⟩
 show Rep (LL o) w' _ _ v (.sl ET.I (ov y) .none)
 rw [adW]
 generalize dX (gm y)=ts at hrow
 obtain ⟨hl,hr⟩:=hrow
 rcases hr with ⟨rfl,hn⟩|⟨g,cap,cur,rfl,hg0,hgb,hc,hc',hsz,htk⟩
 ·have:ts=[]:=List.length_eq_zero_iff.1 hn
  subst this
  exact .sl none 0 0 _ _ _ (fun _ _=>undef) rfl (Nat.le_refl _) trivial (fun j x hx=>by cases hx) (fun j x hx=>by cases hx)
 ·have hcell: ∀j x,(ts.map fun n:Nat=>(n:Int))[j]? =some x→cur.getD j undef= .int .i64 x∧w'.cell? ⟨g,j,none⟩=some (.int .i64 x):=by
   intro j x hx
   rw [List.getElem?_map] at hx
   cases ht:ts[j]? with
   |none=>rw [ht] at hx;cases hx
   |some n=>
    rw [ht] at hx
    injection hx with hx
    have hj:j<ts.length:=(List.getElem?_eq_some_iff.1 ht).1
    have h1:(cur.toList.take (ts.length*1))[j]? =some (er n):=by rw [htk,List.getElem?_map,ht];rfl
    rw [List.getElem?_take_of_lt (by omega)] at h1
    have h2:cur[j]? =some (.int .i64 x):=by rw [←Array.getElem?_toList,h1,←hx];rfl
    refine ⟨?_,by simp [World.cell?,hgb,h2]⟩
    rw [Array.getD_eq_getD_getElem?,h2];rfl
  refine Rep.sl (X:=LL o) (some ⟨g,0,none⟩) ts.length cap ET.I (show List Int from ts.map fun n:Nat=>(n:Int)) .none (fun j k=>cur.getD (j+k) undef) (List.length_map _) hc trivial (fun j x hx k p hp=> ?_) (fun j x hx k p hp=> ?_)
  ·match k,hp with
   |0,hp=>
    obtain ⟨h1,h2⟩:=hcell j x hx
    refine ⟨_,rfl, ?_, ?_⟩
    ·have:(⟨g,0,none⟩:Addr).add (j*(LL o).esize ET.I+0)=⟨g,j,none⟩:=by
      rw [Addr.add_lit'];show (⟨g,0+(j*1+0),none⟩:Addr)=_;congr 1;omega
     rw [this,h2];rw [Nat.add_zero,h1]
    ·rintro (hN|⟨i,hi,_⟩|⟨i,hi⟩)
     ·have:=(hg.bnd.n0 _ _ hN).1
      simp at this;omega
     ·exact absurd hi (Nat.not_lt_zero i)
     ·cases hi
   |k+1,hp=>simp [VV,dg] at hp
  ·match k,hp with
   |0,hp=>
    obtain ⟨h1,h2⟩:=hcell j x hx
    rw [Nat.add_zero,h1]
    have:p= .int .i64 x:=by simpa [VV,dg] using hp.symm
    subst this
    exact .int _ _
   |k+1,hp=>simp [VV,dg] at hp
end Go.Proofs.YtgajalidbabccaaGreatDoor
namespace Go.Proofs.YtgajalidbabccaaGreatDoor
open Go PI Go.Shelf Go.RowKit Go.Sort
set_option linter.unusedVariables false
set_option linter.unusedSimpArgs false
set_option maxRecDepth 100000
def lb (a b:Int):Int:=if a<b then-1 else if b<a then 1 else 0
def gI (x y:Cl):Int:=if x.pos=y.pos then lb x.neg y.neg else lb x.pos y.pos
def dP (x:Cl):List Value:=[.int .u32 x.pos,.int .u32 x.neg]
theorem BC (a:Int) (W:World):Calls Tryz.prog 313 #[.int .u32 a] W fun e w'=>e= .returned (.bool false)∧w'=W:=by
 go_enter Tryz.func313,Tryz.ntmps313
 go_wp2
 go_ret
 exact ⟨by simp,rfl⟩
set_option maxHeartbeats 1000000 in
theorem Gr (a b:Int) (W:World):Calls Tryz.prog 281 #[.int .u32 a,.int .u32 b] W fun e w'=>e= .returned (.int .i64 (lb a b))∧w'=W:=by
 unfold lb
 by_cases h1:a<b
 ·rw [if_pos h1]
  go_enter Tryz.func281,Tryz.ntmps281
  go_wp2_with (go_at_call 313;refine (BC _ _).mono ?_;rintro e w' ⟨rfl,rfl⟩)
  go_ret
  exact ⟨rfl,rfl⟩
 ·rw [if_neg h1]
  by_cases h2:b<a
  ·rw [if_pos h2]
   go_enter Tryz.func281,Tryz.ntmps281
   go_wp2_with (go_at_call 313;refine (BC _ _).mono ?_;rintro e w' ⟨rfl,rfl⟩)
   go_ret
   exact ⟨rfl,rfl⟩
  ·rw [if_neg h2]
   go_enter Tryz.func281,Tryz.ntmps281
   go_wp2_with (go_at_call 313;refine (BC _ _).mono ?_;rintro e w' ⟨rfl,rfl⟩)
   go_ret
   exact ⟨rfl,rfl⟩
set_option maxHeartbeats 1000000 in
theorem Xu (x y:Cl) (W:World):Calls Tryz.prog 231 #[.agg (dP x).toArray,.agg (dP y).toArray] W fun e w'=>e= .returned (.int .i64 (gI x y))∧ ∃q os',w'=grow (W.drewN q) os':=by
 obtain ⟨a,b⟩:=x
 obtain ⟨a',b'⟩:=y
 have h1:=Gr a a'
 have h2:=Gr b b'
 unfold gI
 simp only [dP]
 generalize lb a a'=r1 at h1 ⊢
 generalize lb b b'=r2 at h2 ⊢
 by_cases h:a=a'
 ·rw [if_pos h]
  go_enter Tryz.func231,Tryz.ntmps231
  go_wp2_with (go_at_call 281;refine (h2 _).mono ?_;rintro e w' ⟨rfl,rfl⟩)
  go_ret
  exact ⟨rfl,0,_,by rw [alloc_eq_grow,alloc_eq_grow,grow_grow];rfl⟩
 ·rw [if_neg h]
  go_enter Tryz.func231,Tryz.ntmps231
  go_wp2_with (go_at_call 281;refine (h1 _).mono ?_;rintro e w' ⟨rfl,rfl⟩)
  go_ret
  exact ⟨rfl,0,_,by rw [alloc_eq_grow,alloc_eq_grow,grow_grow];rfl⟩
theorem rL (x y:Cl):ltOf gI x y=(decide (x.pos<y.pos)||(decide (x.pos=y.pos)&&decide (x.neg<y.neg))):=by
 have h:gI x y<0↔(x.pos<y.pos∨x.pos=y.pos∧x.neg<y.neg):=by
  unfold gI lb
  split<;>split<;>first|omega|(split<;>omega)
 rw [Bool.eq_iff_iff]
 simp only [ltOf,decide_eq_true_eq,Bool.or_eq_true,Bool.and_eq_true]
 exact h
theorem ahL:SWO (ltOf gI) where
 irrefl x:=by rw [rL];simp
 trans x y z h1 h2:=by rw [rL] at*;simp at*;omega
 ntrans x y z h1 h2:=by rw [rL] at*;simp at*;omega
theorem ajb (x y:Cl) (h1:ltOf gI x y=false) (h2:ltOf gI y x=false):x=y:=by
 rw [rL] at*;simp at*
 obtain ⟨a,b⟩:=x
 obtain ⟨a',b'⟩:=y
 simp at*
 omega
theorem aaF:(fun x y:Cl=> !ltOf gI y x)=jC:=by
 funext x y
 rw [rL,Bool.eq_iff_iff]
 simp [jC]
 omega
instance:Inhabited Cl:=⟨⟨0,0⟩⟩
theorem ahs (b c:Nat) (d:List Cl) (w:World) (hH:HoldsK dP 2 w b 0 d.toArray) (hb:b<w.heap.size) (hsz:d.length<4611686018427387904):
  Calls Tryz.prog 230 #[.slice (some ⟨b,0,none⟩) d.length c,.func (.func 231) #[] #[]] w fun e w'=>e= .returned (.tuple #[])∧ ∃n os,w'=sortWorldK dP 2 w b 0 n (sortCl d).toArray os:=by
 have eg: ∀args w,(callFunc 231 args).run Tryz.prog w= .ok (.enter 231 args) w:=enters_of Tryz.func231 (by kernel_rfl) rfl
 have h:=AnyQ.slices_SortFunc_total Tryz.sortCl 2 Tryz.isAgg53 Tryz.sizeOf53 dP (fun _=>rfl) (fun x v hv=>by simp [dP] at hv;rcases hv with rfl|rfl<;>rfl) gI ahL 231 #[] b 0 c d.toArray w eg (fun _ _ _ _ x y=>Xu x y _) hH hb hsz ajb
 rw [aaF] at h
 exact h
theorem aht (p:Option Addr) (c:Nat) (w:World):Calls Tryz.prog 230 #[.slice p 0 c,.func (.func 231) #[] #[]] w fun e w'=>e= .returned (.tuple #[])∧w'=w:=
 AnyF.slices_SortFunc_none Tryz.sortCl p c _ w
theorem ahr {m:Nat} {d:Array Cl} {os:Array Obj} {w:World} {b k:Nat} (hk:k<w.heap.size) (hne:k≠b):(sortWorldK dP 2 w b 0 m d os).heap[k]? =w.heap[k]? :=by
 unfold sortWorldK putRowK putRow mapBlock
 rw [heap_grow_old _ _ (by simpa [ahead] using hk)]
 show (w.heap.modify b _)[k]? =_
 rw [Array.getElem?_modify,if_neg (Ne.symm hne)]
theorem ahq {m:Nat} {d:Array Cl} {os:Array Obj} {w:World} {b:Nat} {cur:Array Value} {e:TypeId} {fr:Nat×Nat} (h:w.heap[b]? =some (.cells cur e fr)):
  (sortWorldK dP 2 w b 0 m d os).heap[b]? =some (.cells (putCells id 0 (flatK dP 2 d) cur) e fr):=by
 have hb:b<w.heap.size:=(Array.getElem?_eq_some_iff.1 h).1
 unfold sortWorldK putRowK putRow mapBlock
 rw [heap_grow_old _ _ (by simpa [ahead] using hb)]
 show (w.heap.modify b _)[b]? =_
 rw [Array.getElem?_modify,if_pos rfl,h];rfl
theorem Xs (x:Cl) {k:Nat} {p:PU} (hp:(dg .C x)[k]? =some p):k<2∧ ∀ (X:Link VV Tryz.prog) (w:World) (N:ax) (g:Gh UU),Rep X w N g (dP x)[k]! p:=by
 match k,hp with
 |0,hp=>cases hp;exact ⟨by omega,fun X w N g=> .int _ _⟩
 |1,hp=>cases hp;exact ⟨by omega,fun X w N g=> .int _ _⟩
 |k+2,hp=>simp [dg] at hp
theorem aaN {w:World} {b c:Nat} {l:List Cl} {cur:Array Value} {e:TypeId} (hb:w.heap[b]? =some (.cells cur e (0,0))) (hs:cur.size=c*2) (hl:l.length≤c) (h: ∀ (j:Nat) (x:Cl),l[j]? =some x→ ∀k,k<2→w.cell? ⟨b,j*2+k,none⟩=some (dP x)[k]!):HoldsK dP 2 w b 0 l.toArray:=by
 intro t ht
 rw [size_flatK] at ht
 have ht':t<l.length*2:=by simpa using ht
 have hj:t/2<l.length:=by omega
 have hx:l[t/2]? =some l.toArray[t/2]! :=by simp [hj]
 refine ⟨?_, ?_⟩
 ·rw [get_flatK _ _ _ _ ht]
  have:=h _ _ hx (t%2) (Nat.mod_lt _ (by omega))
  rw [Nat.zero_add]
  rw [show t/2*2+t%2=t by omega] at this
  exact this
 ·simp [World.frozen?,hb]
theorem aaT {f:Nat} {ps:List PU} {l l':List Cl} (h:Bz f ps l=some l'):f=230∧ps=[.func 231 [] []]∧l'=sortCl l:=by
 unfold Bz at h
 split at h
 ·injection h with h
  exact ⟨rfl,rfl,h.symm⟩
 ·cases h
theorem wy (o:Obj):jx (LL o):=by
 intro f ps e l l' h
 have hi:Ir f ps e l=some l':=h
 clear h
 cases e with
 |T=>cases hi
 |B=>cases hi
 |I=>cases hi
 |F=>cases hi
 |C=>
 obtain ⟨rfl,rfl,rfl⟩:=aaT hi
 refine ⟨⟨Tryz.f230,Tryz.func230,by kernel_rfl,rfl⟩,fun w vs N0 δ ο hg hδ=> ?_⟩
 have hs:vs.size=2:=hg.size
 obtain ⟨v0,v1,rfl⟩: ∃v0 v1,vs= #[v0,v1]:=by
  obtain ⟨l⟩:=vs
  match l,hs with
  |[v,v'],_=>exact ⟨v,v',rfl⟩
 have h0:ObOK (LL o) w (NB N0 0 (fun _=>0) δ) (gB UU 0 fun _=>0) ET.C l v0 .wr (δ 0):=hg.args 0 _ rfl
 have h1:Rep (LL o) w (NB N0 0 (fun _=>0) δ) (gB UU 0 fun _=>0) v1 (.func 231 [] []):=hg.args 1 _ rfl
 cases h1 with
 |func _ _ _ xs ys ha hb _ _=>
 have ha':xs= #[]:=by simpa using ha
 have hb':ys= #[]:=by simpa using hb
 subst ha';subst hb'
 obtain ⟨A,n,c,rfl,hl,hc,hcell,hm⟩:=h0.val
 have hl: @List.length Cl l=n:=hl
 cases hD:δ 0 with
 |none=>
  rw [hD] at hm hcell
  obtain ⟨rfl,rfl,rfl⟩:=hm.1 rfl
  have:l=([]:List Cl):=List.length_eq_zero_iff.1 hl
  subst this
  refine (aht none 0 w).mono ?_
  rintro e w' ⟨rfl,rfl⟩
  refine ⟨rfl,.refl _ _, ?_⟩
  rw [hD] at h0
  have:sortCl []=[]:=by simp [sortCl]
  rw [this]
  exact h0
 |some b=>
  rw [hD] at hm hcell
  obtain ⟨hu,cur,rfl,hblk,hsz,hmax⟩:=hm
  have hbl:b<w.heap.size:=(Array.getElem?_eq_some_iff.1 hblk).1
  have hcs:cur.size=c*2:=hsz
  have hH:HoldsK dP 2 w b 0 l.toArray:=aaN hblk hcs (hl▸hc) fun j x hx k hk=>by
   have hp: ∃p,(dg ET.C x)[k]? =some p∧p= .int .u32 (if k=0 then x.pos else x.neg):=by
    match k,hk with
    |0,_=>exact ⟨_,rfl,rfl⟩
    |1,_=>exact ⟨_,rfl,rfl⟩
   obtain ⟨p,hp,hpe⟩:=hp
   obtain ⟨a,v,ha,hv,hr,_⟩:=hcell j x hx k p hp
   injection ha with ha
   subst ha
   subst hpe
   have hv':w.cell? ⟨b,j*2+k,none⟩=some v:=by
    have:(⟨b,0,none⟩:Addr).add (j*(LL o).esize ET.C+k)=⟨b,j*2+k,none⟩:=by
     rw [Addr.add_lit'];show (⟨b,0+(j*2+k),none⟩:Addr)=_;congr 1;omega
    rw [this] at hv;exact hv
   rw [hv']
   cases hr
   match k,hk with
   |0,_=>rfl
   |1,_=>rfl
  have hlt: @List.length Cl l<4611686018427387904:=by
   have:n≤1099511627776:=hmax.2
   omega
  have hcall:=ahs b c l w hH hbl hlt
  have he:(.slice (some ⟨b,0,none⟩) (@List.length Cl l) c:Value)= .slice (some ⟨b,0,none⟩) n c:=by rw [hl]
  rw [he] at hcall
  refine hcall.mono ?_
  rintro e w' ⟨rfl,m,os,rfl⟩
  have hlen:(sortCl l).length= @List.length Cl l:=List.length_mergeSort _
  have hH':=holdsK_sortWorldK_c dP 2 w b 0 l.toArray (sortCl l).toArray m os hH hbl hlen
  refine ⟨rfl,⟨rfl,rfl,rfl,size_sortWorldK_c dP 2 w b 0 m _ os,fun k hk hne=>ahr hk fun e=>hne ?_⟩, ?_⟩
  ·subst e
   exact List.mem_append_right _ (List.mem_filterMap.2 ⟨0,by simp,hD⟩)
  ·refine ⟨_,n,c,rfl,hlen.trans hl,hc,fun j x hx k p hp=> ?_, ?_⟩
   ·obtain ⟨hk,hrep⟩:=Xs x hp
    have hj:j<(sortCl l).length:=(List.getElem?_eq_some_iff.1 hx).1
    have:=(hH'.cell (i:=j) (c:=k) (by simpa using hj) hk).1
    have he:(sortCl l).toArray[j]! =x:=by
     have:=List.getElem?_eq_some_iff.1 hx
     rw [getElem!_pos _ j (by simpa using hj)];exact this.2
    rw [he] at this
    refine ⟨_,_,rfl, ?_,hrep _ _ _ _,fun h=>by cases h⟩
    have e:(⟨b,0,none⟩:Addr).add (j*(LL o).esize ET.C+k)=⟨b,0+j*2+k,none⟩:=by
     rw [Addr.add_lit'];show (⟨b,0+(j*2+k),none⟩:Addr)=_;congr 1;omega
    show World.cell? _ (Addr.add _ _)=_
    rw [e];exact this
   ·exact ⟨hu,_,rfl,ahq hblk,by simp [putCells];exact hcs,hmax⟩
end Go.Proofs.YtgajalidbabccaaGreatDoor
namespace Go.Proofs.YtgajalidbabccaaGreatDoor
open Go PI Go.ChangeShapes Go.WideShapes Go.ChangeAt Go.RowKit
set_option linter.unusedVariables false
set_option linter.unusedSimpArgs false
set_option maxRecDepth 100000
theorem own:ownKnob Tryz.prog.godebug=none:=by kernel_rfl
theorem H8:Tryz.prog.globalNamed "math/bits.deBruijn32tab" =some 0:=by kernel_rfl
section
variable {H:Type} {enc:TypeId×Value→H}
structure Kept (W W':World):Prop where
 os:W'.os=W.os
 output:W'.output=W.output
 size:W.heap.size≤W'.heap.size
 block: ∀b,b<W.heap.size→W'.heap[b]? =W.heap[b]?
theorem Kept.sameAt {W W':World} (h:Kept W W') {p:MemPlace} (hp:p.block<W.heap.size):W.sameAt W' p:=by
 cases p with
 |cell b o=>simp only [World.sameAt,World.cell?];rw [h.block b hp]
 |map b=>exact h.block b hp
theorem Kept.kept {W W':World} (h:Kept W W') (may:MemPlace→Prop):W.keptBut W' may:=by
 refine ⟨h.os,h.output,fun i hi=> ?_⟩
 rw [h.block i hi]
 cases W.heap[i]? with
 |none=>rfl
 |some o=>cases o with
  |cells c t fr=>exact ⟨rfl,rfl,rfl,fun _ _=>rfl⟩
  |map es clock=>exact .inr ⟨rfl,rfl⟩
  |_=>rfl
theorem FP {W W':World} {sp:Nat→Bool} {held:Bool}: ∀ {ts:List TypeId} {vs:List Value} {ds:List (DataW H)} {ps:List MemPlace},
  DataW.TrodAll enc Tryz.prog W 0 sp held ts vs ds ps→(∀p∈ps,W.sameAt W' p)→DataW.TrodAll enc Tryz.prog W' 0 sp held ts vs ds ps
 |[],[],[],_,h,_=>h
 |_::_,_::_,_::_,_,⟨p,q,⟨n,h1⟩,h2,e⟩,hs=>
  ⟨p,q,⟨n,DataW.trod_carry n _ _ _ h1 fun x hx=>hs x (by rw [e];exact List.mem_append_left _ hx)⟩,FP h2 (fun x hx=>hs x (by rw [e];exact List.mem_append_right _ hx)),e⟩
theorem kids:Kids Tryz.prog (· <Tryz.prog.types.size):=kids_rows (by kernel_rfl) (by kernel_rfl)
theorem full: ∀t e,t<Tryz.prog.types.size→Tryz.prog.underlying t=some (.slice e)→0<Tryz.prog.cellsOf e:=slices_full_of Tryz.prog (by kernel_rfl)
theorem aeP {f:Func} {s:ChangeSpec} (hv:s.vars=[]) {cY fresh handsOn again:Bool} {W W':World} {args:Array Value} {ds gs:List (DataW H)} {before:List MemPlace} (hf:f.resultTypes= #[4])
  (hT: ∀t∈f.params.toList,t<Tryz.prog.types.size) (hs:s.fn H ds={results:=[.lit (.bool true)],args:=ds})
  (hW:DataW.Whole enc Tryz.prog f.params.toList s.vars cY W args.toList ds gs before) (hk:Kept W W'):s.post enc Tryz.prog f cY fresh handsOn again W args (.bool true) W':=by
 have hold: ∀p∈before,(fun b=>decide (b<W.heap.size)) p.block=true:=fun p hp=>by simpa using hW.lt p hp
 have hlt: ∀p∈before,p.block<W.heap.size:=fun p hp=>by simpa using hW.lt p hp
 have hW0:=hW
 obtain ⟨p,q,hA,hV,rfl,hz,hn⟩:=hW
 rw [hv] at hV
 obtain ⟨rfl,rfl⟩:=trodVars_none hV
 rw [List.append_nil] at hold hlt hz hn hW0
 have hs':s.fn H (ds++[])={results:=[.lit (.bool true)],args:=ds}:=by rw [List.append_nil];exact hs
 have hr:(Value.bool true).resultList f.resultTypes.size=[.bool true]:=by rw [hf];rfl
 have hres: ∀ (b:Nat) (sp:Nat→Bool) (hd:Bool),DataW.TrodAll enc Tryz.prog W' b sp hd f.resultTypes.toList ((Value.bool true).resultList f.resultTypes.size) (s.fn H (ds++[])).results []:=fun b sp hd=>by
  rw [hr,hs',hf]
  exact trodAll_cons_mk (shut_bool Tryz.underlying4 _) trodAll_mk0
 have hargs: ∀sp:Nat→Bool,(∀p'∈p,sp p'.block=true)→DataW.TrodAll enc Tryz.prog W' 0 sp true f.params.toList args.toList (s.fn H (ds++[])).args p:=fun sp hsp=>by
  rw [hs']
  exact DataW.TrodAll.respare kids full hT (FP hA fun x hx=>hk.sameAt (hlt x hx)) hsp
 have hvars: ∀sp:Nat→Bool,DataW.TrodVars enc Tryz.prog W' sp s.vars (s.fn H (ds++[])).vars []:=fun sp=>by rw [hv,hs'];rfl
 refine ⟨ds,[],p,[],p,[],hW0,hres _ _ _,hargs _ hold,hvars _,World.keptBut_mono (fun p' hp=>hp.elim) (hk.kept fun _=>False),fun _=> ?_⟩
 refine ⟨fun j t r h1 h2=> ?_,_,_,([]++p)++[],⟨[]++p,[],trodAll_append (hargs _ (fun _ _=>rfl)) (hres _ _ _),hvars _,rfl, ?_, ?_⟩, ?_⟩
 ·rw [hf] at h1
  rw [hr] at h2
  match j,h1,h2 with
  |0,h1,h2=>cases h1;cases h2;exact okWide_bool_mk Tryz.underlying4 _
  |j+1,h1,h2=>simp at h2
 ·intro b off hp
  have hp':MemPlace.cell b off∈p:=by simpa using hp
  have:=hz b off hp'
  simp only [World.frozen?] at this ⊢
  rw [hk.block b (hlt _ hp')]
  exact this
 ·intro ha
  have:=hn ha
  simpa using this
 ·intro p' hp _
  simpa using hp
variable {w:World} {spare:Nat→Bool} {held:Bool} {o:Obj} {N:ax} {g:Gh UU}
theorem WL {v:Value} {n:Nat} (h:v.cells.toList.length=n+2): ∃vs:Array Value,v= .agg vs∧vs.toList=v.cells.toList:=by
 cases v with
 |agg vs=>exact ⟨vs,rfl,rfl⟩
 |_=>simp [Value.cells] at h
theorem W5 (hN: ∀b o,¬N b o) {v:Value} {d:DataW H} {ps:List MemPlace} (h:DataW.Trod enc Tryz.prog w 0 spare held 26 v d ps): ∃t:Tm,Rep (LL o) w N g v (.agg (dg ET.T t))∧QT t d:=by
 obtain ⟨n,hn⟩:=h
 obtain ⟨t,hr,hq⟩:=(aeH (o:=o) (g:=g) hN n).1 _ _ _ hn
 obtain ⟨_,_,_,_,hl,_,_⟩:=DataW.trod_struct Tryz.underlying26 hn
 have hl6:v.cells.toList.length=6:=hl.trans (by kernel_rfl)
 obtain ⟨vs,rfl,hvs⟩:=WL (n:=4) hl6
 refine ⟨t,Rep.agg (X:=LL o) vs (dg ET.T t) (by rw [←Array.length_toList,hvs,hl6];rfl) fun j p hp=> ?_,hq⟩
 obtain ⟨v',hv',hr'⟩:=hr j p hp
 have:vs.getD j undef=v':=by
  have h2:vs[j]? =some v':=by rw [←Array.getElem?_toList,hvs];exact hv'
  rw [Array.getD_eq_getD_getElem?,h2];rfl
 rw [this];exact hr'
theorem aaG {o:Obj} {W:World} (h0:W.heap[0]? =some o) {vs:Array Value} {ps:List PU} (hs:vs.size=ps.length) (hp:ps.all PV.notFresh=true)
  (h: ∀ (j:Nat) p,ps[j]? =some p→Rep (LL o) W (NB (fun _ _=>False) 0 (fun _=>0) fun _=>none) (gB UU 0 fun _=>0) (vs.getD j undef) p):Given (LL o) W vs (fun _ _=>False) (fun _=>0) (fun _=>none) (fun _=> #[]) ps [] where
 bnd:=⟨fun i j hi=>absurd hi (Nat.not_lt_zero i),fun i hi=>absurd hi (Nat.not_lt_zero i),fun j b h=>(by cases h),fun i j b h=>(by cases h),fun j b h=>(by cases h),fun b o h=>h.elim⟩
 size:=hs
 dom:=fun j b h=>by cases h
 glob:=fun b o' hb=>by
  simp [LL] at hb
  obtain ⟨rfl,rfl⟩:=hb
  exact ⟨h0,fun i hi=>absurd hi (Nat.not_lt_zero i),fun j h=>by cases h⟩
 args:=fun j p hj=>RepG.of (h j p hj)
 boxes:=fun k b h=>by simp at h
 oz:=fun _ _=>rfl
theorem noN: ∀b o,¬NB (fun _ _=>False) 0 (fun _=>0) (fun _=>none) b o:=by
 rintro b o (h|⟨k,hk,_⟩|⟨j,h⟩)
 ·exact h
 ·exact absurd hk (Nat.not_lt_zero k)
 ·cases h
theorem Xk {o:Obj} {f:FuncId} {ps:List PU} (hok:bJ (LL o) f ps [] (.ret (.bool true) [])) {W:World} {vs:Array Value} (hg:Given (LL o) W vs (fun _ _=>False) (fun _=>0) (fun _=>none) (fun _=> #[]) ps []):
  Calls Tryz.prog f vs W fun e W'=>e= .returned (.bool true)∧Kept W W':=by
 refine (hok.2 W vs _ _ _ _ hg).mono ?_
 rintro e W' he
 cases e with
 |returned rv=>
  obtain ⟨ν',δ',hb,hr⟩:=he
  have hr:Rep (LL o) W' _ _ rv (.bool true):=hr
  cases hr
  refine ⟨rfl,hb.ext.os,hb.ext.output,hb.ext.size,fun b hb'=>hb.ext.block b hb' fun hm=> ?_⟩
  simp [lX] at hm
 |panicked ch=>exact he.elim
 |outgrown=>exact he.elim
theorem aiY {H:Type}:(Rows.laid_math_bits_deBruijn32tab:DataW H)=Lib.tabData .u8 (Lib.deBruijn32tab.map fun n:Nat=>(n:Int)):=rfl
theorem aiZ {W:World} (h:laidMetH Tryz.prog [("math/bits.deBruijn32tab",Rows.laid_math_bits_deBruijn32tab)] W): ∃o,ad o∧W.heap[0]? =some o:=by
 have h':laidMet Tryz.prog [("math/bits.deBruijn32tab",Rows.laid_math_bits_deBruijn32tab)] W:=h
 rw [aiY] at h'
 have ht:Lib.TabIs Tryz.prog W "math/bits.deBruijn32tab" .u8 (Lib.deBruijn32tab.map fun n:Nat=>(n:Int)):=
  Lib.tabIs_of_head (rest:=[]) H8 (by kernel_rfl) Tryz.underlying234 Tryz.underlying5 (by kernel_rfl) (by kernel_rfl) h'
 have hc: ∀j,j<Lib.deBruijn32tab.length→W.cell? ⟨0,j,none⟩=some (.int .u8 (Lib.deBruijn32tab.getD j 0:Nat)):=fun j hj=>by
  rw [ht.cell H8 j (by simpa using hj)]
  simp [List.getD,hj]
 have h0:=hc 0 (by decide)
 cases hh:W.heap[0]? with
 |none=>simp [World.cell?,hh] at h0
 |some o=>
  cases o with
  |cells cur e fr=>
   refine ⟨_,⟨cur,e,fr,rfl,fun j hj=> ?_⟩,rfl⟩
   have:=hc j hj
   simpa [World.cell?,hh] using this
  |_=>simp [World.cell?,hh] at h0
end
end Go.Proofs.YtgajalidbabccaaGreatDoor
namespace Go.Proofs.YtgajalidbabccaaGreatDoor
open Go PI
set_option linter.unusedVariables false
set_option linter.unusedSimpArgs false
set_option maxRecDepth 100000
noncomputable section
abbrev Rw (S:Type):=List PU→List (Box UU)→(Out UU→Option S)→Option S
abbrev Kn (S:Type):=(Out UU→Option S)→Option S
noncomputable def iI (n:Int):PU:= .int .i64 n
noncomputable def iU (n:Int):PU:= .int .u32 n
noncomputable def pt (i:Nat):PU:= .ptr i 0
noncomputable def aT (t:Tm):PU:= .agg [.int .i64 t.kind,.int .i64 t.n,.str t.name,bq t.r .none,dF t.kids .none,bX t.sys .none]
noncomputable def aC (c:Cl):PU:= .agg [.int .u32 c.pos,.int .u32 c.neg]
noncomputable def aB (b:Br Tm):PU:= .agg [bq b.face .none,dF b.kids .none]
noncomputable def bT (t:Tm):Box UU:= .cells [.int .i64 t.kind,.int .i64 t.n,.str t.name,bq t.r .none,dF t.kids .none,bX t.sys .none]
noncomputable def bC (c:Cl):Box UU:= .cells [.int .u32 c.pos,.int .u32 c.neg]
noncomputable def bB (b:Br Tm):Box UU:= .cells [bq b.face .none,dF b.kids .none]
noncomputable def bI (n:Int):Box UU:= .cells [.int .i64 n]
noncomputable def bb (b:Bool):Box UU:= .cells [.bool b]
noncomputable def sC (l:List Cl):PU:=bq l .none
noncomputable def sT (l:List Tm):PU:=dF l .none
noncomputable def sB (l:List (Br Tm)):PU:=bX l .none
structure Cd where
 D:Type→Type
 k:{ρ:Type}→ρ→D ρ
 dec:{ρ:Type}→D ρ→PU→Option ρ
 A:{ρ:Type}→D ρ→(PU→ρ→Prop)→Prop
 law: ∀ {ρ:Type} (f:D ρ) (v:PU) (r:ρ) (Q:PU→ρ→Prop),A f Q→dec f v=some r→Q v r
structure Cs where
 D:Type→Type
 n:Nat
 k:{ρ:Type}→ρ→D ρ
 dec:{ρ:Type}→D ρ→List PU→Option ρ
 A:{ρ:Type}→D ρ→(List PU→ρ→Prop)→Prop
 law: ∀ {ρ:Type} (f:D ρ) (v:List PU) (r:ρ) (Q:List PU→ρ→Prop),A f Q→dec f v=some r→Q v r
 len: ∀ {ρ:Type} (f:D ρ) (v:List PU) (r:ρ),dec f v=some r→v.length=n
structure Bs where
 D:Type→Type
 n:Nat
 k:{ρ:Type}→ρ→D ρ
 dec:{ρ:Type}→D ρ→List (Box UU)→Option ρ
 A:{ρ:Type}→D ρ→(List (Box UU)→ρ→Prop)→Prop
 law: ∀ {ρ:Type} (f:D ρ) (v:List (Box UU)) (r:ρ) (Q:List (Box UU)→ρ→Prop),A f Q→dec f v=some r→Q v r
 len: ∀ {ρ:Type} (f:D ρ) (v:List (Box UU)) (r:ρ),dec f v=some r→v.length=n
noncomputable def cn:Cs where
 D ρ:=ρ
 n:=0
 k r:=r
 dec f:=fun|[]=>some f|_=> .none
 A f Q:=Q [] f
 law f v r Q h e:=by split at e<;>cases e;exact h
 len f v r e:=by split at e<;>cases e;rfl
noncomputable def cc (c:Cd) (s:Cs):Cs where
 D ρ:=c.D (s.D ρ)
 n:=s.n+1
 k r:=c.k (s.k r)
 dec f:=fun|v::l=>(c.dec f v).bind fun g=>s.dec g l|[]=> .none
 A f Q:=c.A f fun v g=>s.A g fun l r=>Q (v::l) r
 law f v r Q h e:=by
  split at e
  ·obtain ⟨g,h1,h2⟩:=Option.bind_eq_some_iff.1 e
   have:=s.law g _ r _ (c.law f _ g _ h h1) h2;exact this
  ·cases e
 len f v r e:=by
  split at e
  ·obtain ⟨g,h1,h2⟩:=Option.bind_eq_some_iff.1 e
   simp [s.len g _ r h2]
  ·cases e
noncomputable def xn:Bs where
 D ρ:=ρ
 n:=0
 k r:=r
 dec f:=fun|[]=>some f|_=> .none
 A f Q:=Q [] f
 law f v r Q h e:=by split at e<;>cases e;exact h
 len f v r e:=by split at e<;>cases e;rfl
noncomputable def xc (c:Cs) (s:Bs):Bs where
 D ρ:=c.D (s.D ρ)
 n:=s.n+1
 k r:=c.k (s.k r)
 dec f:=fun| .cells v::l=>(c.dec f v).bind fun g=>s.dec g l|_=> .none
 A f Q:=c.A f fun v g=>s.A g fun l r=>Q (.cells v::l) r
 law f v r Q h e:=by
  split at e
  ·obtain ⟨g,h1,h2⟩:=Option.bind_eq_some_iff.1 e
   have:=s.law g _ r _ (c.law f _ g _ h h1) h2;exact this
  ·cases e
 len f v r e:=by
  split at e
  ·obtain ⟨g,h1,h2⟩:=Option.bind_eq_some_iff.1 e
   simp [s.len g _ r h2]
  ·cases e
noncomputable def cI:Cd where
 D ρ:=Int→ρ
 k r:=fun _=>r
 dec f:=fun| .int .i64 n=>some (f n)|_=> .none
 A f Q:= ∀n:Int,Q (iI n) (f n)
 law f v r Q h e:=by split at e<;>cases e;exact h _
noncomputable def cU:Cd where
 D ρ:=Int→ρ
 k r:=fun _=>r
 dec f:=fun| .int .u32 n=>some (f n)|_=> .none
 A f Q:= ∀n:Int,Q (iU n) (f n)
 law f v r Q h e:=by split at e<;>cases e;exact h _
noncomputable def cN (kd:IntKind):Cd where
 D ρ:=Int→ρ
 k r:=fun _=>r
 dec f:=fun| .int q n=>(match decEq q kd with| .isTrue _=>some (f n)| .isFalse _=> .none)|_=> .none
 A f Q:= ∀n:Int,Q (.int kd n) (f n)
 law f v r Q h e:=by
  split at e
  ·split at e
   ·rename_i hq _;subst hq;cases e;exact h _
   ·cases e
  ·cases e
noncomputable def cb:Cd where
 D ρ:=Bool→ρ
 k r:=fun _=>r
 dec f:=fun| .bool n=>some (f n)|_=> .none
 A f Q:= ∀n:Bool,Q (.bool n) (f n)
 law f v r Q h e:=by split at e<;>cases e;exact h _
noncomputable def cs:Cd where
 D ρ:=ByteArray→ρ
 k r:=fun _=>r
 dec f:=fun| .str n=>some (f n)|_=> .none
 A f Q:= ∀n:ByteArray,Q (.str n) (f n)
 law f v r Q h e:=by split at e<;>cases e;exact h _
noncomputable def lC:Cd where
 D ρ:=List Cl→ρ
 k r:=fun _=>r
 dec f:=fun| .sl .C n .none=>some (f n)|_=> .none
 A f Q:= ∀n:List Cl,Q (sC n) (f n)
 law f v r Q h e:=by split at e<;>cases e;exact h _
noncomputable def lT:Cd where
 D ρ:=List Tm→ρ
 k r:=fun _=>r
 dec f:=fun| .sl .T n .none=>some (f n)|_=> .none
 A f Q:= ∀n:List Tm,Q (sT n) (f n)
 law f v r Q h e:=by split at e<;>cases e;exact h _
noncomputable def lB:Cd where
 D ρ:=List (Br Tm)→ρ
 k r:=fun _=>r
 dec f:=fun| .sl .B n .none=>some (f n)|_=> .none
 A f Q:= ∀n:List (Br Tm),Q (sB n) (f n)
 law f v r Q h e:=by split at e<;>cases e;exact h _
noncomputable def lI:Cd where
 D ρ:=List Int→ρ
 k r:=fun _=>r
 dec f:=fun| .sl .I n .none=>some (f n)|_=> .none
 A f Q:= ∀n:List Int,Q (jt n .none) (f n)
 law f v r Q h e:=by split at e<;>cases e;exact h _
noncomputable def lF:Cd where
 D ρ:=List (List Cl)→ρ
 k r:=fun _=>r
 dec f:=fun| .sl .F n .none=>some (f n)|_=> .none
 A f Q:= ∀n:List (List Cl),Q (yp n .none) (f n)
 law f v r Q h e:=by split at e<;>cases e;exact h _
noncomputable def hC:Cd where
 D ρ:=List Cl→ρ
 k r:=fun _=>r
 dec f:=fun| .fresh .C n=>some (f n)|_=> .none
 A f Q:= ∀n:List Cl,Q (Bq n) (f n)
 law f v r Q h e:=by split at e<;>cases e;exact h _
noncomputable def hT:Cd where
 D ρ:=List Tm→ρ
 k r:=fun _=>r
 dec f:=fun| .fresh .T n=>some (f n)|_=> .none
 A f Q:= ∀n:List Tm,Q (H3 n) (f n)
 law f v r Q h e:=by split at e<;>cases e;exact h _
noncomputable def hB:Cd where
 D ρ:=List (Br Tm)→ρ
 k r:=fun _=>r
 dec f:=fun| .fresh .B n=>some (f n)|_=> .none
 A f Q:= ∀n:List (Br Tm),Q (ws n) (f n)
 law f v r Q h e:=by split at e<;>cases e;exact h _
noncomputable def nB:Cd where
 D ρ:=ρ
 k r:=r
 dec f:=fun| .sl .B l .nil=>(match (l:List (Br Tm)) with|[]=>some f|_::_=> .none)|_=> .none
 A f Q:=Q (bX [] .nil) f
 law f v r Q h e:=by
  split at e
  ·split at e
   ·cases e;exact h
   ·cases e
  ·cases e
noncomputable def cT:Cd where
 D ρ:=Tm→ρ
 k r:=fun _=>r
 dec f:=fun| .agg [.int .i64 a,.int .i64 b,.str c,.sl .C d .none,.sl .T e .none,.sl .B g .none]=>some (f (Tm.mk a b c d e g))|_=> .none
 A f Q:= ∀t:Tm,Q (aT t) (f t)
 law f v r Q h e:=by split at e<;>cases e;exact h (Tm.mk _ _ _ _ _ _)
noncomputable def cC:Cd where
 D ρ:=Cl→ρ
 k r:=fun _=>r
 dec f:=fun| .agg [.int .u32 a,.int .u32 b]=>some (f ⟨a,b⟩)|_=> .none
 A f Q:= ∀t:Cl,Q (aC t) (f t)
 law f v r Q h e:=by split at e<;>cases e;exact h (⟨_,_⟩)
noncomputable def cB:Cd where
 D ρ:=Br Tm→ρ
 k r:=fun _=>r
 dec f:=fun| .agg [.sl .C a .none,.sl .T b .none]=>some (f (Br.mk a b))|_=> .none
 A f Q:= ∀t:Br Tm,Q (aB t) (f t)
 law f v r Q h e:=by split at e<;>cases e;exact h (Br.mk _ _)
noncomputable def xT (s:Bs):Bs where
 D ρ:=Tm→s.D ρ
 n:=s.n+1
 k r:=fun _=>s.k r
 dec f:=fun| .cells [.int .i64 a,.int .i64 b,.str c,.sl .C d .none,.sl .T e .none,.sl .B g .none]::l=>s.dec (f (Tm.mk a b c d e g)) l|_=> .none
 A f Q:= ∀t:Tm,s.A (f t) fun l r=>Q (bT t::l) r
 law f v r Q h e:=by
  split at e
  ·have:=s.law _ _ r _ (h (Tm.mk _ _ _ _ _ _)) e;exact this
  ·cases e
 len f v r e:=by
  split at e
  ·simp [s.len _ _ r e]
  ·cases e
noncomputable def xC (s:Bs):Bs where
 D ρ:=Cl→s.D ρ
 n:=s.n+1
 k r:=fun _=>s.k r
 dec f:=fun| .cells [.int .u32 a,.int .u32 b]::l=>s.dec (f ⟨a,b⟩) l|_=> .none
 A f Q:= ∀t:Cl,s.A (f t) fun l r=>Q (bC t::l) r
 law f v r Q h e:=by
  split at e
  ·have:=s.law _ _ r _ (h (⟨_,_⟩)) e;exact this
  ·cases e
 len f v r e:=by
  split at e
  ·simp [s.len _ _ r e]
  ·cases e
noncomputable def xI (s:Bs):Bs where
 D ρ:=Int→s.D ρ
 n:=s.n+1
 k r:=fun _=>s.k r
 dec f:=fun| .cells [.int .i64 a]::l=>s.dec (f a) l|_=> .none
 A f Q:= ∀t:Int,s.A (f t) fun l r=>Q (bI t::l) r
 law f v r Q h e:=by
  split at e
  ·have:=s.law _ _ r _ (h _) e;exact this
  ·cases e
 len f v r e:=by
  split at e
  ·simp [s.len _ _ r e]
  ·cases e
noncomputable def cp (i:Nat):Cd where
 D ρ:=ρ
 k r:=r
 dec f:=fun| .ptr j 0=>(match decEq j i with| .isTrue _=>some f| .isFalse _=> .none)|_=> .none
 A f Q:=Q (pt i) f
 law f v r Q h e:=by
  split at e
  ·split at e
   ·rename_i hq _;subst hq;cases e;exact h
   ·cases e
  ·cases e
noncomputable def cg (s:Cs):Cd where
 D ρ:=s.D ρ
 k r:=s.k r
 dec f:=fun| .agg l=>s.dec f l|_=> .none
 A f Q:=s.A f fun l r=>Q (.agg l) r
 law f v r Q h e:=by
  split at e
  ·have:=s.law f _ r _ h e;exact this
  ·cases e
noncomputable def cf (i:Nat) (s:Cs) (u:Cs):Cd where
 D ρ:=s.D (u.D ρ)
 k r:=s.k (u.k r)
 dec f:=fun| .func j l m=>(match decEq j i with| .isTrue _=>(s.dec f l).bind fun g=>u.dec g m| .isFalse _=> .none)|_=> .none
 A f Q:=s.A f fun l g=>u.A g fun m r=>Q (.func i l m) r
 law f v r Q h e:=by
  split at e
  ·split at e
   ·rename_i hq _
    subst hq
    obtain ⟨g,h1,h2⟩:=Option.bind_eq_some_iff.1 e
    have:=u.law g _ r _ (s.law f _ g _ h h1) h2;exact this
   ·cases e
  ·cases e
noncomputable def ae {S:Type} (K:Cs) (B:Bs) (F:K.D (B.D (Kn S))):Rw S:=fun vs bs κ=>(K.dec F vs).bind fun g=>(B.dec g bs).bind fun h=>h κ
noncomputable def re (K:Cs) (B:Bs) (vs:List PU) (bs:List (Box UU)):Bool:=((K.dec (K.k (B.k ())) vs).bind fun g=>B.dec g bs).isSome
noncomputable def AA {S:Type} (K:Cs) (B:Bs) (F:K.D (B.D (Kn S))) (Q:List PU→List (Box UU)→Kn S→Prop):Prop:=K.A F fun vs g=>B.A g fun bs h=>Q vs bs h
theorem sq {S:Type} {K:Cs} {B:Bs} {F:K.D (B.D (Kn S))} {Q:List PU→List (Box UU)→Kn S→Prop} (hA:AA K B F Q) {vs:List PU} {bs:List (Box UU)} {κ:Out UU→Option S} {x:S} (h:ae K B F vs bs κ=some x):
  ∃g,Q vs bs g∧g κ=some x∧vs.length=K.n∧bs.length=B.n:=by
 obtain ⟨g,h1,h2⟩:=Option.bind_eq_some_iff.1 h
 obtain ⟨u,h3,h4⟩:=Option.bind_eq_some_iff.1 h2
 have:=K.law F vs g _ hA h1
 have:=B.law g bs u _ this h3
 exact ⟨u,this,h4,K.len _ _ _ h1,B.len _ _ _ h3⟩
noncomputable def Tl {S:Type} (o:Obj) (f:Nat) (r:Rw S):Prop:= ∀vs bs κ x,r vs bs κ=some x→ ∃out,bJ (LL o) f vs bs out∧κ out=some x
noncomputable def sx {S:Type}:List (Nat×Rw S)→Oracle UU S
 |[],_,_,_,_=> .none
 |(g,r)::l,f,vs,bs,κ=>bif Nat.beq f g then r vs bs κ else sx l f vs bs κ
noncomputable def TA {S:Type} (o:Obj):List (Nat×Rw S)→Prop
 |[]=>True
 |(f,r)::l=>Tl o f r∧TA o l
theorem TA.tells {S:Type} {o:Obj}: ∀ {l:List (Nat×Rw S)},TA o l→(sx l).Tells (bJ (LL o))
 |[],_,f,vs,bs,κ,x,h=>by cases h
 |(g,r)::l,hl,f,vs,bs,κ,x,h=>by
  unfold sx at h
  cases hb:Nat.beq f g with
  |true=>
   rw [hb] at h
   have:=Nat.eq_of_beq_eq_true hb
   subst this
   exact hl.1 _ _ _ _ h
  |false=>
   rw [hb] at h
   exact TA.tells hl.2 _ _ _ _ _ h
noncomputable def l_ {S:Type} (b:List PU→List (Box UU)→Bool) (r q:Rw S):Rw S:=fun vs bs κ=>bif b vs bs then r vs bs κ else q vs bs κ
theorem sA {S:Type} {o:Obj} {f:Nat} {b:List PU→List (Box UU)→Bool} {r q:Rw S} (h1:Tl o f r) (h2:Tl o f q):Tl o f (l_ b r q):=fun vs bs κ x h=>by
 unfold l_ at h
 rcases Xa h with h|h
 ·exact h1 _ _ _ _ h
 ·exact h2 _ _ _ _ h
structure Fx (S:Type) where
 sd:Side UU
 rows:List (Nat×Rw S)
 loops:List (Nat×Ann×List Bool)
 k:Nat
 fn:Func
 kp:Bool
 hn:List Bool
 nb:Nat
 cd:Option (PU→Oracle UU S)
noncomputable def FQ:List (Nat×Ann×List Bool)→Nat→Option Ann
 |[],_=> .none
 |(i,a,_)::l,n=>bif Nat.beq n i then some a else FQ l n
noncomputable def Ck:List (Nat×Ann×List Bool)→Nat→Ann×List Bool
 |[],_=>(⟨[],[]⟩,[])
 |(i,a)::l,n=>bif Nat.beq n i then a else Ck l n
noncomputable def aE (rs:List Nat) (bs:List (Nat×Nat)):Ann:=⟨rs.map fun n=>(n,.none),bs.map fun p=>(p.1,List.replicate p.2 .none)⟩
noncomputable def am:Nat→Nat→List Bool
 |0,_=>[]
 |n+1,b=>Nat.beq (b%2) 1::am n (b/2)
noncomputable def fx {S:Type} (nt:Nat) (gv:Nat→List Bool) (ip:Nat→Bool) (rows:List (Nat×Rw S)) (loops:List (Nat×Ann×List Bool)) (k:Nat) (fn:Func) (kp:Bool) (hn:List Bool) (nb:Nat):Fx S:=
 ⟨⟨nt,gv,ip,.none,fun _=>false⟩,rows,loops,k,fn,kp,hn,nb,.none⟩
noncomputable def fp {S:Type} (nt:Nat) (rows:List (Nat×Rw S)) (loops:List (Nat×Ann×List Bool)) (k:Nat) (fn:Func) (nb:Nat):Fx S:=fx nt (fun _=>[]) (fun _=>false) rows loops k fn false [] nb
variable {S:Type}
noncomputable def Fx.oc (F:Fx S):Oracle UU S:=sx F.rows
noncomputable def Fx.an (F:Fx S):Nat→Option Ann:=FQ F.loops
noncomputable def Fx.go (F:Fx S) (c:Code) (σ:St UU) (κ:Ex UU→St UU→Option S):Option S:=PI.run VV F.sd F.oc F.an F.k c σ κ
noncomputable def Fx.kt (F:Fx S) (κ:Out UU→Option S) (p:List Bool) (κs:List (St UU→Option S)):Ex UU→St UU→Option S:=match F.cd with
 | .none=>iY VV F.sd F.oc F.an F.k (fh F.fn) p κs F.an (kF VV F.oc F.kp F.hn F.fn F.nb κ)
 |some C=>IV VV F.sd F.oc F.an F.k (fh F.fn) p κs F.an (kF VV F.oc F.kp F.hn F.fn F.nb κ) (kD VV F.oc C F.kp F.hn F.fn F.nb κ)
noncomputable def Fx.run (F:Fx S) (vs:List PU) (bs:List (Box UU)) (κ:Out UU→Option S):Option S:=match F.cd with
 | .none=>oN VV F.sd F.oc F.an F.k F.kp F.hn F.fn vs bs κ
 |some C=>DS VV F.sd F.oc F.an F.k C F.kp F.hn F.fn vs bs κ
noncomputable def Fx.A (F:Fx S) (i:Nat):Ann:=(Ck F.loops i).1
noncomputable def Fx.p (F:Fx S) (i:Nat):List Bool:=(Ck F.loops i).2
noncomputable def Fx.lp (F:Fx S) (κ:Out UU→Option S) (i:Nat) (κs:List (St UU→Option S)) (n:Nat) (σ:St UU):Option S:=
 rJ (dm (F.A i)) (fun σ κ=>F.go (fU (fh F.fn) (F.p i++[false])) σ κ) n σ (F.kt κ (F.p i) κs)
noncomputable def Fx.st (F:Fx S) (κ:Out UU→Option S) (i:Nat) (κs:List (St UU→Option S)) (r:St UU→Option S) (σ:St UU):Option S:=
 F.go (fU (fh F.fn) (F.p i++[false])) σ (back (dm (F.A i)) r (F.kt κ (F.p i) κs))
noncomputable def Fx.jn (F:Fx S) (κ:Out UU→Option S) (i:Nat) (κs:List (St UU→Option S)) (n:Nat) (σ:St UU):Option S:=
 BF (fun σ κ=>F.go (fU (fh F.fn) (F.p i)) σ κ) n σ (F.kt κ (F.p i) κs)
noncomputable def Fx.sj (F:Fx S) (κ:Out UU→Option S) (i:Nat) (κs:List (St UU→Option S)) (σ:St UU):Option S:=F.go (fU (fh F.fn) (F.p i)) σ (F.kt κ (F.p i) κs)
theorem Fx.lp_succ (F:Fx S) (κ:Out UU→Option S) (i:Nat) (κs:List (St UU→Option S)) (n:Nat) (σ:St UU):F.lp κ i κs (n+1) σ=F.st κ i κs (fun τ=>F.lp κ i κs n τ) σ:=rfl
theorem Fx.jn_succ (F:Fx S) (κ:Out UU→Option S) (i:Nat) (κs:List (St UU→Option S)) (n:Nat) (σ:St UU):F.jn κ i κs (n+1) σ=F.sj κ i κs σ:=rfl
noncomputable def sy (F:Fx S) (n m:Nat):Bool:=(F.fn.name== "runtime.NumGoroutine")==false&&(F.fn.body.isNone==false&&(Nat.beq F.fn.ntmps F.sd.nt&&(Nat.ble F.sd.nt 1000000&&(Nat.ble n F.sd.nt&&Nat.ble m 1000000))))
theorem CQ {F:Fx S} {n m:Nat} (h:sy F n m=true):(F.fn.name== "runtime.NumGoroutine")=false∧F.fn.body.isNone=false∧F.fn.ntmps=F.sd.nt∧F.sd.nt≤1000000∧n≤F.sd.nt∧m≤1000000:=by
 unfold sy at h
 simp only [Bool.and_eq_true,beq_iff_eq] at h
 obtain ⟨h1,h2,h3,h4,h5,h6⟩:=h
 exact ⟨h1,h2,Nat.eq_of_beq_eq_true h3,Nat.le_of_ble_eq_true h4,Nat.le_of_ble_eq_true h5,Nat.le_of_ble_eq_true h6⟩
theorem af {o:Obj} {K:Cs} {B:Bs} {R:K.D (B.D (Kn S))} (F:Fx S) {f:FuncId} (ht:TA o F.rows) (hf:Tryz.prog.funcs[f]? =some F.fn) (hb:sy F K.n B.n=true) (run:AA K B R fun vs bs g=> ∀κ x,g κ=some x→F.run vs bs κ=some x)
  (h1:F.sd.rcv= .none:=by rfl) (h2:F.sd.pin=(fun _=>false):=by rfl) (h3:F.cd= .none:=by rfl):Tl o f (ae K B R):=fun vs bs κ x h=>by
 obtain ⟨g,hg,hx,hl,hm⟩:=sq run h
 have hr:=hg κ x hx
 unfold Fx.run at hr
 rw [h3] at hr
 obtain ⟨b1,b2,b3,b4,b5,b6⟩:=CQ hb
 exact sw (N9 wZ (wy o) h1 h2 ht.tells hf b1 b2 b3 b4 (by omega) hr)
open Classical in
noncomputable def uQ {S:Type} (bs:List (Box UU)) (κ:Out UU→Option S):Out UU→Option S
 | .ret v cs=>if cs=bs then κ (.ret v []) else .none
 | .panic .. => .none
theorem QW {S:Type} {o:Obj} {K:Cs} {B:Bs} {R:K.D (B.D (Kn S))} {f:FuncId} {r:Rw S} (h:Tl o f r) (run:AA K B R fun vs bs g=> ∀κ x,g κ=some x→r vs bs (uQ bs κ)=some x):Tl o f (ae K B R):=fun vs bs κ x hx=>by
 obtain ⟨g,hg,hx,_⟩:=sq run hx
 obtain ⟨out,hok,hκ⟩:=h _ _ _ _ (hg κ x hx)
 cases out with
 |panic v cs=>cases hκ
 |ret v cs=>
  simp only [uQ] at hκ
  split at hκ
  case isFalse=>cases hκ
  rename_i hc
  subst hc
  refine ⟨.ret v [], ?_,hκ⟩
  have e:Out.full cs (.ret v [])=Out.full cs (.ret v cs):=by
   have hb:Nat.ble cs.length cs.length=true:=by simp
   simp only [Out.full,hb,cond_true]
   cases cs<;>rfl
  unfold bJ
  rw [e]
  exact hok
open Classical in
noncomputable def qc {S:Type} (n m:Nat) (bs:List (Box UU)) (κ:Out UU→Option S):Out UU→Option S
 | .ret v cs=>match cs[n]? with
  |some (.cells a)=>if Nat.ble bs.length 1=false∧jk bs [.cells (.int .i64 n::a.take m)]=cs then κ (.ret v [.cells (.int .i64 n::a.take m)]) else .none
  |_=> .none
 | .panic .. => .none
theorem Fv {S:Type} {o:Obj} {K:Cs} {B:Bs} {R:K.D (B.D (Kn S))} {f:FuncId} {r:Rw S} {n m:Nat} (h:Tl o f r) (run:AA K B R fun vs bs g=> ∀κ x,g κ=some x→r vs bs (qc n m bs κ)=some x):Tl o f (ae K B R):=fun vs bs κ x hx=>by
 obtain ⟨g,hg,hx,_⟩:=sq run hx
 obtain ⟨out,hok,hκ⟩:=h _ _ _ _ (hg κ x hx)
 cases out with
 |panic v cs=>cases hκ
 |ret v cs=>
  simp only [qc] at hκ
  split at hκ
  case h_2=>cases hκ
  rename_i a ha
  split at hκ
  case isFalse=>cases hκ
  rename_i hc
  obtain ⟨hl,hc⟩:=hc
  refine ⟨.ret v _, ?_,hκ⟩
  have e:Out.full bs (.ret v [.cells (.int .i64 n::a.take m)])=Out.full bs (.ret v cs):=by
   have h1:Out.full bs (.ret v [.cells (.int .i64 n::a.take m)])= .ret v cs:=by
    simp only [Out.full]
    rw [show [(Box.cells (.int .i64 n::a.take m):Box UU)].length=1 from rfl,hl,cond_false,hc]
   have h2:cs.length=bs.length:=by
    rw [←hc];unfold jk;split<;>(try split)<;>simp
   have h3:Nat.ble bs.length cs.length=true:=by rw [h2];simp
   rw [h1]
   simp only [Out.full,h3,cond_true]
  unfold bJ
  rw [e]
  exact hok
theorem dx {o:Obj} {K:Cs} {B:Bs} {R:K.D (B.D (Kn S))} {f:FuncId} (h0:AA K B R fun vs bs g=> ∀κ x,g κ=some x→False):Tl o f (ae K B R):=fun vs bs κ x h=>by
 obtain ⟨g,hg,hx,_⟩:=sq h0 h
 exact (hg κ x hx).elim
noncomputable def mJ (nt f:Nat) (fn:Func) (k:Nat):PU→Oracle UU S:=fun v g vs bs κ=>bif Nat.beq g f&&Nat.ble vs.length nt then DT VV ⟨nt,fun _=>[],fun _=>false,.none,fun _=>false⟩ (sx []) (fun _=> .none) k true [] fn v vs bs κ else .none
theorem uL (o:Obj) {nt f:Nat} {fn:Func} {k:Nat} (hf:Tryz.prog.funcs[f]? =some fn) (hb:sy (fp nt [] [] k fn 0:Fx S) 0 0=true): ∀v u u',RcvOK v u u'→(mJ (S:=S) nt f fn k v).Tells (gD (LL o) (io Tryz.prog u u')):=by
 intro v u u' hv g vs bs κ x h
 unfold mJ at h
 cases hc:Nat.beq g f&&Nat.ble vs.length nt with
 |false=>rw [hc] at h;cases h
 |true=>
  rw [hc] at h
  rw [Bool.and_eq_true] at hc
  have:=Nat.eq_of_beq_eq_true hc.1
  subst this
  obtain ⟨b1,b2,b3,b4,_,_⟩:=CQ hb
  exact sw (af4 wZ (wy o) rfl rfl (TA.tells (l:=[]) (o:=o) trivial) hf b1 b2 b3 b4 hv (Nat.le_of_ble_eq_true hc.2) h)
theorem yA {o:Obj} {K:Cs} {B:Bs} {R:K.D (B.D (Kn S))} (F:Fx S) {f:FuncId} {C:PU→Oracle UU S} (h3:F.cd=some C) (hC: ∀v u u',RcvOK v u u'→(C v).Tells (gD (LL o) (io Tryz.prog u u'))) (ht:TA o F.rows) (hf:Tryz.prog.funcs[f]? =some F.fn) (hb:sy F K.n B.n=true)
  (run:AA K B R fun vs bs g=> ∀κ x,g κ=some x→F.run vs bs κ=some x) (h1:F.sd.rcv= .none:=by rfl):Tl o f (ae K B R):=fun vs bs κ x h=>by
 obtain ⟨g,hg,hx,hl,hm⟩:=sq run h
 have hr:=hg κ x hx
 unfold Fx.run at hr
 rw [h3] at hr
 obtain ⟨b1,b2,b3,b4,b5,b6⟩:=CQ hb
 exact sw (af2 wZ (wy o) h1 ht.tells hC hf b1 b2 b3 b4 (by omega) (by omega) hr)
theorem iW {F:Fx S} {κ:Out UU→Option S} {i:Nat} {κs:List (St UU→Option S)} {mk:St UU} {l:Nat→Option S} (b:Option S) (h0:l 0= .none) (hs: ∀n,l (n+1)=b) (B:F.sj κ i κs mk=b): ∀ (n:Nat),F.jn κ i κs n mk=l n:=by
 intro n
 cases n with
 |zero=>intros;rw [h0];rfl
 |succ n=>intros;rw [hs,Fx.jn_succ];exact B
theorem b9 {F:Fx S} {κ:Out UU→Option S} {i:Nat} {κs:List (St UU→Option S)} {α0:Type} {mk:α0→St UU} {l:Nat→α0→Option S} (b:(α0→Option S)→α0→Option S) (h0:l 0=fun x0=> .none) (hs: ∀n,l (n+1)=b (l n)) (B: ∀ (r:St UU→Option S) x0,F.st κ i κs r (mk x0)=b (fun x0=>r (mk x0)) x0): ∀ (n:Nat) x0,F.lp κ i κs n (mk x0)=l n x0:=by
 intro n
 induction n with
 |zero=>intros;rw [h0];rfl
 |succ n ih=>
  intros
  rw [hs,Fx.lp_succ,B]
  exact congrArg (fun g=>b g _) (funext fun x0=>ih x0)
theorem BD {F:Fx S} {κ:Out UU→Option S} {i:Nat} {κs:List (St UU→Option S)} {α0:Type} {mk:α0→St UU} {l:Nat→α0→Option S} (b:α0→Option S) (h0:l 0=fun x0=> .none) (hs: ∀n,l (n+1)=b) (B: ∀x0,F.sj κ i κs (mk x0)=b x0): ∀ (n:Nat) x0,F.jn κ i κs n (mk x0)=l n x0:=by
 intro n
 cases n with
 |zero=>intros;rw [h0];rfl
 |succ n=>intros;rw [hs,Fx.jn_succ];exact B _
theorem aA {F:Fx S} {κ:Out UU→Option S} {i:Nat} {κs:List (St UU→Option S)} {α0 α1:Type} {mk:α0→α1→St UU} {l:Nat→α0→α1→Option S} (b:(α0→α1→Option S)→α0→α1→Option S) (h0:l 0=fun x0 x1=> .none) (hs: ∀n,l (n+1)=b (l n)) (B: ∀ (r:St UU→Option S) x0 x1,F.st κ i κs r (mk x0 x1)=b (fun x0 x1=>r (mk x0 x1)) x0 x1): ∀ (n:Nat) x0 x1,F.lp κ i κs n (mk x0 x1)=l n x0 x1:=by
 intro n
 induction n with
 |zero=>intros;rw [h0];rfl
 |succ n ih=>
  intros
  rw [hs,Fx.lp_succ,B]
  exact congrArg (fun g=>b g _ _) (funext fun x0=>funext fun x1=>ih x0 x1)
theorem Iu {F:Fx S} {κ:Out UU→Option S} {i:Nat} {κs:List (St UU→Option S)} {α0 α1:Type} {mk:α0→α1→St UU} {l:Nat→α0→α1→Option S} (b:α0→α1→Option S) (h0:l 0=fun x0 x1=> .none) (hs: ∀n,l (n+1)=b) (B: ∀x0 x1,F.sj κ i κs (mk x0 x1)=b x0 x1): ∀ (n:Nat) x0 x1,F.jn κ i κs n (mk x0 x1)=l n x0 x1:=by
 intro n
 cases n with
 |zero=>intros;rw [h0];rfl
 |succ n=>intros;rw [hs,Fx.jn_succ];exact B _ _
theorem dT {F:Fx S} {κ:Out UU→Option S} {i:Nat} {κs:List (St UU→Option S)} {α0 α1 α2:Type} {mk:α0→α1→α2→St UU} {l:Nat→α0→α1→α2→Option S} (b:(α0→α1→α2→Option S)→α0→α1→α2→Option S) (h0:l 0=fun x0 x1 x2=> .none) (hs: ∀n,l (n+1)=b (l n)) (B: ∀ (r:St UU→Option S) x0 x1 x2,F.st κ i κs r (mk x0 x1 x2)=b (fun x0 x1 x2=>r (mk x0 x1 x2)) x0 x1 x2): ∀ (n:Nat) x0 x1 x2,F.lp κ i κs n (mk x0 x1 x2)=l n x0 x1 x2:=by
 intro n
 induction n with
 |zero=>intros;rw [h0];rfl
 |succ n ih=>
  intros
  rw [hs,Fx.lp_succ,B]
  exact congrArg (fun g=>b g _ _ _) (funext fun x0=>funext fun x1=>funext fun x2=>ih x0 x1 x2)
theorem adR {F:Fx S} {κ:Out UU→Option S} {i:Nat} {κs:List (St UU→Option S)} {α0 α1 α2 α3 α4 α5 α6 α7 α8 α9 α10:Type} {mk:α0→α1→α2→α3→α4→α5→α6→α7→α8→α9→α10→St UU} {l:Nat→α0→α1→α2→α3→α4→α5→α6→α7→α8→α9→α10→Option S} (b:(α0→α1→α2→α3→α4→α5→α6→α7→α8→α9→α10→Option S)→α0→α1→α2→α3→α4→α5→α6→α7→α8→α9→α10→Option S) (h0:l 0=fun x0 x1 x2 x3 x4 x5 x6 x7 x8 x9 x10=> .none) (hs: ∀n,l (n+1)=b (l n)) (B: ∀ (r:St UU→Option S) x0 x1 x2 x3 x4 x5 x6 x7 x8 x9 x10,F.st κ i κs r (mk x0 x1 x2 x3 x4 x5 x6 x7 x8 x9 x10)=b (fun x0 x1 x2 x3 x4 x5 x6 x7 x8 x9 x10=>r (mk x0 x1 x2 x3 x4 x5 x6 x7 x8 x9 x10)) x0 x1 x2 x3 x4 x5 x6 x7 x8 x9 x10): ∀ (n:Nat) x0 x1 x2 x3 x4 x5 x6 x7 x8 x9 x10,F.lp κ i κs n (mk x0 x1 x2 x3 x4 x5 x6 x7 x8 x9 x10)=l n x0 x1 x2 x3 x4 x5 x6 x7 x8 x9 x10:=by
 intro n
 induction n with
 |zero=>intros;rw [h0];rfl
 |succ n ih=>
  intros
  rw [hs,Fx.lp_succ,B]
  exact congrArg (fun g=>b g _ _ _ _ _ _ _ _ _ _ _) (funext fun x0=>funext fun x1=>funext fun x2=>funext fun x3=>funext fun x4=>funext fun x5=>funext fun x6=>funext fun x7=>funext fun x8=>funext fun x9=>funext fun x10=>ih x0 x1 x2 x3 x4 x5 x6 x7 x8 x9 x10)
end
end Go.Proofs.YtgajalidbabccaaGreatDoor
namespace Go.Proofs.YtgajalidbabccaaGreatDoor
open Go PI
set_option linter.unusedVariables false
set_option maxRecDepth 100000
noncomputable def tv:Side UU:=⟨8,fun _=>[],fun _=>false,.none,fun _=>false⟩
noncomputable def w8 {S:Type}:Oracle UU S:=fun _ _ _ _=> .none
theorem c1 {S:Type} (κ:Out UU→Option S):oN VV tv w8 (fun _=> .none) 5 false [] Tryz.f91 [.sl (U:=UU) ET.C [] .void] [] κ=κ (.ret (bq [] .none) []):=by kernel_rfl
theorem c2 {S:Type} (l:List Cl) (κ:Out UU→Option S):oN VV tv w8 (fun _=> .none) 5 false [] Tryz.f91 [.sl (U:=UU) ET.C l .sure] [] κ=Option.bind (ap 1099511627776 0 l.length) fun _=>κ (.ret (bq l .none) []):=by kernel_rfl
theorem aeL {S:Type} (o:Obj):(w8 (S:=S)).Tells (bJ (LL o)):=fun _ _ _ _ _ h=>by cases h
theorem Gq (o:Obj) {args:List PU} (hl:args.length=1) {out:Out UU} (h:oN VV tv w8 (fun _=> .none) 5 false [] Tryz.f91 args [] some=some out):bJ (LL o) 91 args [] out:=by
 obtain ⟨out',h1,h2⟩:=N9 wZ (wy o) (S:=tv) rfl rfl (aeL o) (f:=91) Tryz.func91 (by kernel_rfl) rfl rfl (by decide) (by rw [hl];decide) h
 injection h1 with h1
 exact h1▸h2
theorem H_ {X:Link VV Tryz.prog} {w:World} {vs:Array Value} {N0:ax} {ν:Nat→Nat} {δ:Nat→Option Nat} {ο:Nat→Array Value} {p q:PU} (h:Given X w vs N0 ν δ ο [p] [])
  (hr:RepG X w (NB N0 0 ν δ) (gB UU 0 ν) (vs.getD 0 undef) (δ 0) p→RepG X w (NB N0 0 ν δ) (gB UU 0 ν) (vs.getD 0 undef) (δ 0) q):Given X w vs N0 ν δ ο [q] []:=
 {h with
  args:=fun j r hj=>by
   cases j with
   |zero=>
    injection hj with hj
    subst hj
    exact hr (h.args 0 p rfl)
   |succ j=>simp at hj}
theorem Xt (o:Obj) (l:List Cl) {u:Unit} (hroom:ap 1099511627776 0 l.length=some u):bJ (LL o) 91 [bq l .none] [] (.ret (bq l .none) []):=by
 refine ⟨⟨Tryz.f91,Tryz.func91,by kernel_rfl,rfl⟩,fun w vs N0 ν δ ο hg=> ?_⟩
 have h0:Rep (LL o) w (NB N0 0 ν δ) (gB UU 0 ν) (vs.getD 0 undef) (bq l .none):=hg.args 0 _ rfl
 generalize hv:vs.getD 0 undef=v at h0
 cases h0 with
 |sl A n c _ _ _ val hl hc _ h1 h2=>
 cases A with
 |none=>
  have hl0:l=[]:=by
   cases l with
   |nil=>rfl
   |cons x r=>
    obtain ⟨a,ha,_⟩:=h1 0 x rfl 0 _ rfl
    cases ha
  subst hl0
  exact (Gq o (args:=[bq [] .void]) rfl (c1 some)).2 w vs N0 ν δ ο (H_ hg fun _=>by
   rw [hv];exact Rep.sl (X:=LL o) none n c ET.C (show List Cl from []) .void val hl hc rfl h1 h2)
 |some a=>
  refine (Gq o (args:=[bq l .sure]) rfl (out:= .ret (bq l .none) []) ((c2 l some).trans (by rw [hroom];rfl))).2 w vs N0 ν δ ο (H_ hg fun _=> ?_)
  rw [hv]
  exact Rep.sl (X:=LL o) (some a) n c ET.C l .sure val hl hc (fun h=>by cases h) h1 h2
theorem ai_ {S:Type} (o:Obj) (ho:ad o) (vs:List PU) (bs:List (Box UU)) (κ:Out UU→Option S) (x:S) (h:DQ vs bs κ=some x): ∃out,bJ (LL o) aam vs bs out∧κ out=some x:=by
 unfold DQ at h
 split at h
 case h_2=>cases h
 rename_i κ y
 unfold xe at h
 obtain ⟨u,hr,h⟩:=Option.bind_eq_some_iff.1 h
 exact ⟨_,Xt o y hr,h⟩
end Go.Proofs.YtgajalidbabccaaGreatDoor
namespace Go.Proofs.YtgajalidbabccaaGreatDoor
open Go PI
set_option linter.unusedVariables false
set_option maxRecDepth 100000
noncomputable section
noncomputable def wB:Cs:=cc cT (cc cI cn)
noncomputable def BH:Cs:=cc cI (cc lT cn)
noncomputable def IA:Cs:=cc cI (cc cI cn)
noncomputable def wF:Cs:=cc cT (cc cI (cc cI (cc (cp 0) cn)))
noncomputable def bm:Bs:=xI xn
noncomputable def kX5:Cs:=cc cT (cc (cf 198 cn (cc (cp 0) cn)) cn)
noncomputable def kX6:Cs:=cc cT (cc (cf 200 cn (cc (cp 0) cn)) cn)
noncomputable def Rq:Bs:=xc (cc (cf 199 cn (cc (cp 1) (cc (cp 0) cn))) cn) (xI xn)
noncomputable def IQ:Cs:=cc cT (cc (cp 0) (cc (cp 1) cn))
noncomputable def xX9:Bs:=xI (xc (cc (cf 199 cn (cc (cp 0) (cc (cp 1) cn))) cn) xn)
noncomputable def c6:Cs:=cc cT cn
noncomputable def d6:Cs:=cc cI cn
noncomputable def Iy:Cs:=cc cs cn
noncomputable def rm:Cs:=cc cU cn
noncomputable def lw:Cs:=cc cC cn
noncomputable def rn:Cs:=cc cC (cc cC cn)
noncomputable def wD:Cs:=cc cC (cc (cp 0) cn)
noncomputable def tr:Bs:=xC xn
noncomputable def Iz:Cs:=cc lC (cc (cf 228 cn (cc (cp 0) cn)) cn)
noncomputable def ajK:Bs:=xc (cc lC cn) xn
noncomputable def dI:Cs:=cc lC cn
noncomputable def gb:Cs:=cc lC (cc lC cn)
noncomputable def jV:Cs:=cc cU (cc cI cn)
noncomputable def wE:Cs:=cc lC (cc cI cn)
noncomputable def IB:Cs:=cc lC (cc (cf 269 cn cn) cn)
noncomputable def nA:Cs:=cc cT (cc cI (cc cI cn))
noncomputable def IC:Cs:=cc cT (cc cI (cc cI (cc cb cn)))
noncomputable def abk:Cs:=cc cT (cc cI (cc cI (cc (cp 0) (cc (cp 1) (cc (cp 2) cn)))))
noncomputable def Rm:Bs:=xI (xI (xc (cc cb cn) xn))
noncomputable def abl:Cs:=cc cT (cc (cf 117 cn (cc (cp 0) (cc (cp 1) (cc (cp 2) cn)))) cn)
noncomputable def ID:Cs:=cc lT cn
noncomputable def IE:Cs:=cc (cp 0) (cc cT (cc cI cn))
noncomputable def rp:Cs:=cc (cp 0) cn
noncomputable def iX:Cs:=cc (cp 0) (cc cT cn)
noncomputable def IF:Cs:=cc lF cn
noncomputable def IG:Cs:=cc cU (cc cI (cc cI cn))
noncomputable def IH:Cs:=cc cC (cc cI (cc cI cn))
noncomputable def abm:Cs:=cc hC (cc cC (cc (cp 0) (cc (cp 1) cn)))
noncomputable def yI:Bs:=xI (xI xn)
noncomputable def abn:Cs:=cc lC (cc hC (cc (cf 144 cn (cc (cp 0) (cc (cp 1) cn))) cn))
noncomputable def BI:Cs:=cc lC (cc cI (cc cI cn))
noncomputable def abo:Cs:=cc (cg (cc cI (cc cI cn))) (cc lC (cc cI cn))
noncomputable def abp:Cs:=cc (cg (cc cI (cc cI cn))) (cc cT (cc cI (cc cI cn)))
noncomputable def BJ:Cs:=cc (cp 0) (cc (cp 1) (cc (cp 2) cn))
noncomputable def Rn:Bs:=xI (xI (xT xn))
noncomputable def abq:Cs:=cc cT (cc lI (cc (cf 206 cn (cc (cp 0) (cc (cp 1) (cc (cp 2) cn)))) cn))
noncomputable def BL:Cs:=cc (cp 0) (cc cT (cc cI (cc cI cn)))
noncomputable def abr:Cs:=cc (cp 0) (cc cI cn)
noncomputable def II:Cs:=cc (cp 0) (cc lC cn)
noncomputable def abt:Cs:=cc (cp 0) (cc lC (cc lC cn))
noncomputable def yJ:Bs:=xI (xT (xI xn))
noncomputable def abv:Cs:=cc cT (cc lI (cc (cf 84 cn (cc (cp 0) (cc (cp 1) (cc (cp 2) cn)))) cn))
noncomputable def BM:Cs:=cc cT (cc cI (cc lC cn))
noncomputable def IJ:Cs:=cc (cf 152 cn cn) (cc (cp 0) (cc (cp 1) cn))
noncomputable def tt:Bs:=xI (xc (cc lC cn) xn)
noncomputable def abw:Cs:=cc (cf 153 cn cn) (cc (cp 0) (cc (cp 1) cn))
noncomputable def abx:Cs:=cc cI (cc lC cn)
noncomputable def aby:Cs:=cc lC (cc (cf 284 cn cn) cn)
noncomputable def abz:Cs:=cc lC (cc (cf 285 cn (cc (cp 0) cn)) cn)
noncomputable def IK:Cs:=cc lC (cc cC cn)
noncomputable def abB:Cs:=cc lC (cc lC (cc (cf 282 cn cn) cn))
noncomputable def wG:Cs:=cc lC (cc cI (cc lC cn))
noncomputable def BN:Cs:=cc lC (cc cI (cc (cp 0) (cc (cp 1) (cc (cp 2) cn))))
noncomputable def ajL:Bs:=xI (xc (cc lC cn) (xc (cc (cf 153 cn cn) cn) xn))
noncomputable def abC:Cs:=cc lC (cc cC (cc (cp 0) (cc (cp 1) cn)))
noncomputable def abD:Cs:=cc lC (cc lC (cc (cf 235 cn (cc (cp 0) (cc (cp 1) cn))) cn))
noncomputable def Rp:Bs:=xI (xc (cc lC cn) (xc (cc (cf 152 cn cn) cn) xn))
noncomputable def BO:Cs:=cc (cg (cc (cf 148 cn (cc (cp 0) (cc (cp 1) (cc (cp 2) cn)))) (cc (cf 148 cn (cc (cp 0) (cc (cp 1) (cc (cp 3) cn)))) cn))) (cc cT (cc cI cn))
noncomputable def FI:Bs:=xI (xc (cc lC cn) (xc (cc (cf 152 cn cn) cn) (xc (cc (cf 153 cn cn) cn) xn)))
noncomputable def IL:Cs:=cc cI (cc (cp 0) cn)
noncomputable def ajM:Bs:=xT xn
noncomputable def IM:Cs:=cc (cg (cc (cf 148 cn (cc (cp 0) (cc (cp 1) (cc (cp 2) cn)))) (cc (cf 148 cn (cc (cp 0) (cc (cp 1) (cc (cp 3) cn)))) cn))) (cc lT (cc cI (cc (cf 157 cn (cc (cp 4) cn)) cn)))
noncomputable def Rr:Bs:=xI (xc (cc lC cn) (xc (cc (cf 152 cn cn) cn) (xc (cc (cf 153 cn cn) cn) (xI xn))))
noncomputable def abE:Cs:=cc (cg (cc (cf 148 cn (cc (cp 0) (cc (cp 1) (cc (cp 2) cn)))) (cc (cf 148 cn (cc (cp 0) (cc (cp 1) (cc (cp 3) cn)))) cn))) (cc lT (cc cI (cc (cf 156 cn (cc (cp 4) cn)) cn)))
noncomputable def ajN:Bs:=xI (xc (cc lC cn) (xc (cc (cf 152 cn cn) cn) (xc (cc (cf 153 cn cn) cn) (xT xn))))
noncomputable def abF:Cs:=cc lC (cc cI (cc (cp 0) cn))
noncomputable def IN:Cs:=cc (cg (cc (cf 158 cn (cc (cp 0) cn)) (cc (cf 158 cn (cc (cp 0) cn)) cn))) (cc cT (cc cI cn))
noncomputable def IP:Cs:=cc (cg (cc (cf 158 cn (cc (cp 0) cn)) (cc (cf 158 cn (cc (cp 0) cn)) cn))) (cc lT (cc cI (cc (cf 157 cn (cc (cp 1) cn)) cn)))
noncomputable def abG:Cs:=cc (cg (cc (cf 158 cn (cc (cp 0) cn)) (cc (cf 158 cn (cc (cp 0) cn)) cn))) (cc lT (cc cI (cc (cf 156 cn (cc (cp 1) cn)) cn)))
noncomputable def ajO:Bs:=xI (xT xn)
noncomputable def IR:Cs:=cc (cp 0) (cc cT (cc lC cn))
noncomputable def abH:Cs:=cc cT (cc lC (cc cT (cc cC (cc lC cn))))
noncomputable def IS:Cs:=cc cT (cc lC (cc cT cn))
noncomputable def IT:Cs:=cc (cp 0) (cc cT (cc lC (cc cT cn)))
noncomputable def abI:Cs:=cc cT (cc lI (cc (cf 259 cn (cc (cp 0) (cc (cp 1) (cc (cp 2) cn)))) cn))
noncomputable def abJ:Cs:=cc cT (cc (cf 296 cn (cc (cp 0) cn)) cn)
noncomputable def abK:Cs:=cc cT (cc cI (cc cT (cc cI (cc cI cn))))
noncomputable def abL:Cs:=cc cT (cc (cf 298 cn (cc (cp 0) cn)) cn)
noncomputable def abM:Cs:=cc cT (cc cI (cc cT cn))
noncomputable def wH:Cs:=cc (cp 0) (cc cT (cc cT cn))
noncomputable def abN:Cs:=cc cI (cc lC (cc lT cn))
noncomputable def oY:Bs:=xc (cc cI (cc lC (cc cI (cc cI (cc cs (cc lC (cc lT (cc lB cn)))))))) xn
noncomputable def abO:Cs:=cc cI (cc cC (cc (cp 0) (cc (cp 1) (cc (cp 2) cn))))
noncomputable def ajQ:Bs:=xc (cc (cp 3) cn) (xT (xT (xc (cc cI (cc lC (cc cI (cc cI (cc cs (cc lC (cc lT (cc lB cn)))))))) xn)))
noncomputable def abP:Cs:=cc (cp 0) (cc lC (cc cI cn))
noncomputable def abQ:Cs:=cc lC (cc lT cn)
noncomputable def abR:Cs:=cc lB cn
noncomputable def abS:Cs:=cc cT (cc cT (cc lB cn))
noncomputable def abT:Cs:=cc (cp 0) (cc cT (cc cT (cc lB cn)))
noncomputable def abU:Cs:=cc cI (cc lB (cc lT cn))
noncomputable def aa2:Cs:=cc cB cn
noncomputable def aa3:Cs:=cc lB (cc (cf 118 cn cn) cn)
noncomputable def aa4:Cs:=cc cT (cc lB cn)
noncomputable def aa5:Cs:=cc lC (cc (cf 273 cn (cc (cp 0) cn)) cn)
noncomputable def wC:Cs:=cc (cp 0) (cc (cp 1) cn)
noncomputable def FH:Bs:=xc (cc (cp 2) cn) (xT (xc (cc cI (cc lC (cc cI (cc cI (cc cs (cc lC (cc lT (cc lB (cc lB (cc cI (cc cI (cc cs (cc lC (cc lT (cc lB (cc cI (cc cI (cc cs (cc lC (cc lT (cc lB cn))))))))))))))))))))) xn))
noncomputable def aa6:Cs:=cc (cp 0) (cc (cf 132 cn (cc (cp 1) (cc (cp 2) cn))) cn)
noncomputable def ajF:Bs:=xc (cc cI (cc lC (cc cI (cc cI (cc cs (cc lC (cc lT (cc lB (cc lB (cc cI (cc cI (cc cs (cc lC (cc lT (cc lB (cc cI (cc cI (cc cs (cc lC (cc lT (cc lB cn))))))))))))))))))))) (xc (cc (cp 0) cn) (xT xn))
noncomputable def Iw:Cs:=cc cB (cc (cp 0) cn)
noncomputable def oX:Bs:=xc (cc (cp 1) cn) (xc (cc cI (cc lC (cc cI (cc cI (cc cs (cc lC (cc lT (cc lB (cc lB (cc cI (cc cI (cc cs (cc lC (cc lT (cc lB (cc cI (cc cI (cc cs (cc lC (cc lT (cc lB cn))))))))))))))))))))) xn)
noncomputable def aa7:Cs:=cc lB (cc (cf 133 cn (cc (cp 0) cn)) cn)
noncomputable def ajG:Bs:=xc (cc cI (cc lC (cc cI (cc cI (cc cs (cc lC (cc lT (cc lB (cc nB (cc cI (cc cI (cc cs (cc lC (cc lT (cc lB (cc cI (cc cI (cc cs (cc lC (cc lT (cc lB cn))))))))))))))))))))) xn
noncomputable def Ix:Cs:=cc (cp 0) (cc cT (cc cT (cc cT (cc cT cn))))
noncomputable def aa8:Cs:=cc cT (cc cT (cc cT (cc cT cn)))
noncomputable def yH:Bs:=xc (cc (cf 135 cn (cc (cp 1) (cc (cp 2) cn))) cn) (xc (cc (cp 3) cn) (xT (xc (cc cI (cc lC (cc cI (cc cI (cc cs (cc lC (cc lT (cc lB (cc lB (cc cI (cc cI (cc cs (cc lC (cc lT (cc lB (cc cI (cc cI (cc cs (cc lC (cc lT (cc lB cn))))))))))))))))))))) xn)))
noncomputable def aa9:Cs:=cc (cp 0) (cc (cf 137 cn (cc (cp 1) (cc (cp 2) cn))) cn)
noncomputable def ajH:Bs:=xc (cc cI (cc lC (cc cI (cc cI (cc cs (cc lC (cc lT (cc lB (cc lB (cc cI (cc cI (cc cs (cc lC (cc lT (cc lB (cc cI (cc cI (cc cs (cc lC (cc lT (cc lB cn))))))))))))))))))))) (xc (cc (cf 135 cn (cc (cp 2) (cc (cp 3) cn))) cn) (xc (cc (cp 0) cn) (xT xn)))
noncomputable def aa_:Cs:=cc cB (cc (cp 0) (cc (cp 1) cn))
noncomputable def aba:Cs:=cc lB (cc (cf 138 cn (cc (cp 0) (cc (cp 1) cn))) cn)
noncomputable def ajI:Bs:=xc (cc cI (cc lC (cc cI (cc cI (cc cs (cc lC (cc lT (cc lB (cc lB (cc cI (cc cI (cc cs (cc lC (cc lT (cc lB (cc cI (cc cI (cc cs (cc lC (cc lT (cc lB cn))))))))))))))))))))) xn
noncomputable def abb:Cs:=cc lB (cc (cf 69 cn (cc (cp 0) cn)) cn)
noncomputable def abc:Cs:=cc (cp 0) (cc (cf 72 cn (cc (cp 1) cn)) cn)
noncomputable def ajJ:Bs:=xc (cc cI (cc lC (cc cI (cc cI (cc cs (cc lC (cc lT (cc lB (cc lB (cc cI (cc cI (cc cs (cc lC (cc lT (cc lB (cc cI (cc cI (cc cs (cc lC (cc lT (cc lB cn))))))))))))))))))))) (xc (cc (cp 0) cn) xn)
noncomputable def abd:Cs:=cc cT (cc cT cn)
noncomputable def abe:Cs:=cc lT (cc lT cn)
noncomputable def abf:Cs:=cc lI cn
noncomputable def abg:Cs:=cc cT (cc cI (cc cI (cc cI (cc cI cn))))
noncomputable def abh:Cs:=cc cU (cc cU cn)
noncomputable def abi:Cs:=cc lC (cc cb (cc cI (cc lC (cc cI cn))))
noncomputable def abj:Cs:=cc cT (cc cI (cc lC (cc cI (cc cb cn))))
noncomputable def ay {S:Type} (κ:Out UU→Option S):Int→Option S:=fun r=>κ (.ret (iI r) [])
noncomputable def xg {S:Type} (κ:Out UU→Option S):Int×Int×ByteArray×List Tm→Option S:=fun r=>κ (.ret (.agg [(iI r.1),(iI r.2.1),(.str r.2.2.1),(bq [] .nil),(sT r.2.2.2),(bX [] .nil)]) [])
noncomputable def jl {S:Type} (κ:Out UU→Option S):Int×Int→Option S:=fun r=>κ (.ret (.tuple [(iI r.1),(iI r.2)]) [])
noncomputable def ar {S:Type} (κ:Out UU→Option S):Bool→Option S:=fun r=>κ (.ret (.bool r) [])
noncomputable def dV {S:Type} (c0:Int) (κ:Out UU→Option S):Bool→Option S:=fun r=>κ (.ret (.bool r) [bI c0])
noncomputable def e_ {S:Type} (κ:Out UU→Option S):Bool×Int→Option S:=fun r=>κ (.ret (.bool r.1) [.cells [(.func 199 [] [(pt 1),(pt 0)])],bI r.2])
noncomputable def qX6 {S:Type} (κ:Out UU→Option S):Bool×Int→Option S:=fun r=>κ (.ret (.bool r.1) [bI r.2,.cells [(.func 199 [] [(pt 0),(pt 1)])]])
noncomputable def Li {S:Type} (κ:Out UU→Option S):Cl→Option S:=fun r=>κ (.ret (aC r) [])
noncomputable def Ll {S:Type} (c0:Cl) (κ:Out UU→Option S):Bool→Option S:=fun r=>κ (.ret (.bool r) [bC c0])
noncomputable def xF {S:Type} (c0:Cl) (κ:Out UU→Option S):Int→Option S:=fun r=>κ (.ret (iI r) [bC c0])
noncomputable def ae7 {S:Type} (c0:List Cl) (κ:Out UU→Option S):Bool→Option S:=fun r=>κ (.ret (.bool r) [.cells [(sC c0)]])
noncomputable def aq {S:Type} (κ:Out UU→Option S):List Cl×Int→Option S:=fun r=>κ (.ret (.tuple [(sC r.1),(iI r.2)]) [])
noncomputable def bG {S:Type} (κ:Out UU→Option S):Int→Option S:=fun r=>κ (.ret (iU r) [])
noncomputable def e9 {S:Type} (c0 c1:Int) (c2:Bool) (κ:Out UU→Option S):Bool→Option S:=fun r=>κ (.ret (.bool r) [bI c0,bI c1,.cells [(.bool c2)]])
noncomputable def a6 {S:Type} (κ:Out UU→Option S):Tm→Option S:=fun r=>κ (.ret (aT r) [])
noncomputable def xh {S:Type} (κ:Out UU→Option S):List Tm→Option S:=fun r=>κ (.ret (sT r) [])
noncomputable def eD {S:Type} (κ:Out UU→Option S):Tm×Int→Option S:=fun r=>κ (.ret (aT r.1) [bI r.2])
noncomputable def ae8 {S:Type} (κ:Out UU→Option S):Tm×Bool×Int×Int→Option S:=fun r=>κ (.ret (.tuple [(aT r.1),(.bool r.2.1),(iI r.2.2.1)]) [bI r.2.2.2])
noncomputable def ae9 {S:Type} (κ:Out UU→Option S):List Cl→Option S:=fun r=>κ (.ret (Bq r) [])
noncomputable def sF {S:Type} (κ:Out UU→Option S):Int×Int→Option S:=fun r=>κ (.ret (.tuple [(iU r.1),(iI r.2)]) [])
noncomputable def Lc {S:Type} (κ:Out UU→Option S):Cl×Int→Option S:=fun r=>κ (.ret (.tuple [(aC r.1),(iI r.2)]) [])
noncomputable def ae_ {S:Type} (c0 c1:Int) (κ:Out UU→Option S):List Cl×Int→Option S:=fun r=>κ (.ret (.tuple [(Bq r.1),(iI r.2)]) [bI c0,bI c1])
noncomputable def xj {S:Type} (c0 c1:Int) (κ:Out UU→Option S):List Cl×Int→Option S:=fun r=>κ (.ret (.tuple [(sC r.1),(iI r.2)]) [bI c0,bI c1])
noncomputable def afa {S:Type} (κ:Out UU→Option S):Pan Int (List Cl)→Option S:=fun r=>Pan.elim r (fun r=>κ (.ret (sC r) [])) (fun e=>κ (.panic (.iface 30 (iI e)) []))
noncomputable def bV {S:Type} (κ:Out UU→Option S):Pan Int Tm→Option S:=fun r=>Pan.elim r (fun r=>κ (.ret (aT r) [])) (fun e=>κ (.panic (.iface 30 (iI e)) []))
noncomputable def afb {S:Type} (c0 c1:Int) (c2:Tm) (κ:Out UU→Option S):Pan Int Tm→Option S:=fun r=>Pan.elim r (fun r=>κ (.ret (aT r) [bI c0,bI c1,bT c2])) (fun e=>κ (.panic (.iface 30 (iI e)) [bI c0,bI c1,bT c2]))
noncomputable def xk {S:Type} (c0 c1:Int) (c2:Tm) (κ:Out UU→Option S):Tm×Int→Option S:=fun r=>κ (.ret (.tuple [(aT r.1),(iI r.2)]) [bI c0,bI c1,bT c2])
noncomputable def dL {S:Type} (κ:Out UU→Option S):Tm×Int→Option S:=fun r=>κ (.ret (.tuple [(aT r.1),(iI r.2)]) [])
noncomputable def CY {S:Type} (κ:Out UU→Option S):Int×Int×ByteArray→Option S:=fun r=>κ (.ret (.agg [(iI r.1),(iI r.2.1),(.str r.2.2),(bq [] .nil),(dF [] .nil),(bX [] .nil)]) [])
noncomputable def afc {S:Type} (κ:Out UU→Option S):Int→Option S:=fun r=>κ (.ret (.tuple []) [bI r])
noncomputable def xl {S:Type} (κ:Out UU→Option S):Int→Option S:=fun r=>κ (.ret (pt 0) [bI r])
noncomputable def xm {S:Type} (κ:Out UU→Option S):List Cl×Int→Option S:=fun r=>κ (.ret (sC r.1) [bI r.2])
noncomputable def Ld {S:Type} (c0:Int) (c1:Tm) (c2:Int) (κ:Out UU→Option S):Pan Int Tm→Option S:=fun r=>Pan.elim r (fun r=>κ (.ret (aT r) [bI c0,bT c1,bI c2])) (fun e=>κ (.panic (.iface 30 (iI e)) [bI c0,bT c1,bI c2]))
noncomputable def kr {S:Type} (c0:Int) (c1:Tm) (c2:Int) (κ:Out UU→Option S):Tm×Int→Option S:=fun r=>κ (.ret (.tuple [(aT r.1),(iI r.2)]) [bI c0,bT c1,bI c2])
noncomputable def afd {S:Type} (c0:Int) (c1:List Cl) (κ:Out UU→Option S):Unit→Option S:=fun r=>κ (.ret (.func 148 [] [(pt 0),(pt 1),(pt 2)]) [bI c0,.cells [(sC c1)],.cells [(.func 152 [] [])]])
noncomputable def afe {S:Type} (c0:Int) (c1:List Cl) (κ:Out UU→Option S):Unit→Option S:=fun r=>κ (.ret (.func 148 [] [(pt 0),(pt 1),(pt 2)]) [bI c0,.cells [(sC c1)],.cells [(.func 153 [] [])]])
noncomputable def aff {S:Type} (κ:Out UU→Option S):Int×List Cl→Option S:=fun r=>κ (.ret (.agg [(.func 148 [] [(pt 0),(pt 1),(pt 2)]),(.func 148 [] [(pt 0),(pt 1),(pt 3)])]) [bI r.1,.cells [(sC r.2)],.cells [(.func 152 [] [])],.cells [(.func 153 [] [])]])
noncomputable def eF {S:Type} (κ:Out UU→Option S):List Cl→Option S:=fun r=>κ (.ret (sC r) [])
noncomputable def afg {S:Type} (κ:Out UU→Option S):Cl×Bool→Option S:=fun r=>κ (.ret (.tuple [(aC r.1),(.bool r.2)]) [])
noncomputable def afh {S:Type} (c0:Cl) (κ:Out UU→Option S):Cl×Bool→Option S:=fun r=>κ (.ret (.tuple [(aC r.1),(.bool r.2)]) [bC c0])
noncomputable def xo {S:Type} (c0:Cl) (κ:Out UU→Option S):List Cl→Option S:=fun r=>κ (.ret (sC r) [bC c0])
noncomputable def afi {S:Type} (c0:Int) (c1:List Cl) (κ:Out UU→Option S):List Cl×Int→Option S:=fun r=>κ (.ret (.tuple [(sC r.1),(iI r.2)]) [bI c0,.cells [(sC c1)],.cells [(.func 153 [] [])]])
noncomputable def sG {S:Type} (c0:Int) (c1:List Cl) (κ:Out UU→Option S):List Cl×Int→Option S:=fun r=>κ (.ret (.tuple [(sC r.1),(iI r.2)]) [bI c0,.cells [(sC c1)]])
noncomputable def afj {S:Type} (c0:Int) (c1:List Cl) (κ:Out UU→Option S):List Cl×Int→Option S:=fun r=>κ (.ret (.tuple [(sC r.1),(iI r.2)]) [bI c0,.cells [(sC c1)],.cells [(.func 152 [] [])]])
noncomputable def afk {S:Type} (c0:Int) (c1:List Cl) (κ:Out UU→Option S):List Cl×Int→Option S:=fun r=>κ (.ret (.tuple [(sC r.1),(iI r.2)]) [bI c0,.cells [(sC c1)],.cells [(.func 152 [] [])],.cells [(.func 153 [] [])]])
noncomputable def afl {S:Type} (c0:Tm) (κ:Out UU→Option S):Int→Option S:=fun r=>κ (.ret (iI r) [bT c0])
noncomputable def afm {S:Type} (c0:Int) (κ:Out UU→Option S):Int→Option S:=fun r=>κ (.ret (iI r) [bI c0])
noncomputable def xp {S:Type} (c0:Int) (c1:List Cl) (κ:Out UU→Option S):Tm×Int→Option S:=fun r=>κ (.ret (.tuple [(aT r.1),(iI r.2)]) [bI c0,.cells [(sC c1)],.cells [(.func 152 [] [])],.cells [(.func 153 [] [])]])
noncomputable def xq {S:Type} (c0:Int) (c1:List Cl) (c4:Int) (κ:Out UU→Option S):List Tm×Int→Option S:=fun r=>κ (.ret (.tuple [(sT r.1),(iI r.2)]) [bI c0,.cells [(sC c1)],.cells [(.func 152 [] [])],.cells [(.func 153 [] [])],bI c4])
noncomputable def xt {S:Type} (c0:Int) (c1:List Cl) (c4:Tm) (κ:Out UU→Option S):List Tm×Int→Option S:=fun r=>κ (.ret (.tuple [(sT r.1),(iI r.2)]) [bI c0,.cells [(sC c1)],.cells [(.func 152 [] [])],.cells [(.func 153 [] [])],bT c4])
noncomputable def afn {S:Type} (κ:Out UU→Option S):Int→Option S:=fun r=>κ (.ret (.agg [(.func 158 [] [(pt 0)]),(.func 158 [] [(pt 0)])]) [bI r])
noncomputable def sH {S:Type} (c0:Int) (κ:Out UU→Option S):List Cl×Int→Option S:=fun r=>κ (.ret (.tuple [(sC r.1),(iI r.2)]) [bI c0])
noncomputable def xu {S:Type} (c0:Int) (κ:Out UU→Option S):Tm×Int→Option S:=fun r=>κ (.ret (.tuple [(aT r.1),(iI r.2)]) [bI c0])
noncomputable def xv {S:Type} (c0 c1:Int) (κ:Out UU→Option S):List Tm×Int→Option S:=fun r=>κ (.ret (.tuple [(sT r.1),(iI r.2)]) [bI c0,bI c1])
noncomputable def xw {S:Type} (c0:Int) (c1:Tm) (κ:Out UU→Option S):List Tm×Int→Option S:=fun r=>κ (.ret (.tuple [(sT r.1),(iI r.2)]) [bI c0,bT c1])
noncomputable def afo {S:Type} (κ:Out UU→Option S):Tm×Int×Int→Option S:=fun r=>κ (.ret (.tuple [(aT r.1),(iI r.2.1)]) [bI r.2.2])
noncomputable def b_ {S:Type} (κ:Out UU→Option S):Bool×Int→Option S:=fun r=>κ (.ret (.bool r.1) [bI r.2])
noncomputable def Le {S:Type} (κ:Out UU→Option S):Int×Int×ByteArray×List Cl×List Tm→Option S:=fun r=>κ (.ret (.agg [(iI r.1),(iI r.2.1),(.str r.2.2.1),(sC r.2.2.2.1),(sT r.2.2.2.2),(bX [] .nil)]) [])
noncomputable def Lf {S:Type} (c0_0:Int) (c0_1:List Cl) (c0_2 c0_3:Int) (c0_4:ByteArray) (c0_5:List Cl) (c0_6:List Tm) (c0_7:List (Br Tm)) (κ:Out UU→Option S):Int×Int×ByteArray×List Cl×List Tm→Option S:=fun r=>κ (.ret (.agg [(iI r.1),(iI r.2.1),(.str r.2.2.1),(sC r.2.2.2.1),(sT r.2.2.2.2),(bX [] .nil)]) [.cells [(iI c0_0),(sC c0_1),(iI c0_2),(iI c0_3),(.str c0_4),(sC c0_5),(sT c0_6),(sB c0_7)]])
noncomputable def CZ {S:Type} (c0_1:List Cl) (c0_2 c0_3:Int) (c0_4:ByteArray) (c0_5:List Cl) (c0_6:List Tm) (c0_7:List (Br Tm)) (κ:Out UU→Option S):Int×Int×ByteArray×List Tm×Int→Option S:=fun r=>κ (.ret (.agg [(iI r.1),(iI r.2.1),(.str r.2.2.1),(bq [] .nil),(sT r.2.2.2.1),(bX [] .nil)]) [.cells [(iI r.2.2.2.2),(sC c0_1),(iI c0_2),(iI c0_3),(.str c0_4),(sC c0_5),(sT c0_6),(sB c0_7)]])
noncomputable def afq {S:Type} (c0_1:List Cl) (c0_2 c0_3:Int) (c0_4:ByteArray) (c0_5:List Cl) (c0_6:List Tm) (c0_7:List (Br Tm)) (κ:Out UU→Option S):Tm×Int→Option S:=fun r=>κ (.ret (aT r.1) [.cells [(iI r.2),(sC c0_1),(iI c0_2),(iI c0_3),(.str c0_4),(sC c0_5),(sT c0_6),(sB c0_7)]])
noncomputable def afr {S:Type} (c1 c2:Tm) (c3_1:List Cl) (c3_2 c3_3:Int) (c3_4:ByteArray) (c3_5:List Cl) (c3_6:List Tm) (c3_7:List (Br Tm)) (κ:Out UU→Option S):Int×Int×ByteArray×List Cl×List Tm×Int→Option S:=fun r=>κ (.ret (.agg [(iI r.1),(iI r.2.1),(.str r.2.2.1),(sC r.2.2.2.1),(sT r.2.2.2.2.1),(bX [] .nil)]) [.cells [(pt 3)],bT c1,bT c2,.cells [(iI r.2.2.2.2.2),(sC c3_1),(iI c3_2),(iI c3_3),(.str c3_4),(sC c3_5),(sT c3_6),(sB c3_7)]])
noncomputable def Lg {S:Type} (κ:Out UU→Option S):(Br Tm)→Option S:=fun r=>κ (.ret (aB r) [])
noncomputable def afs {S:Type} (κ:Out UU→Option S):Int×Int×ByteArray×List Tm×List (Br Tm)→Option S:=fun r=>κ (.ret (.agg [(iI r.1),(iI r.2.1),(.str r.2.2.1),(bq [] .nil),(dF r.2.2.2.1 .full),(sB r.2.2.2.2)]) [])
noncomputable def Lh {S:Type} (κ:Out UU→Option S):Int×Int×ByteArray×List Tm×List (Br Tm)→Option S:=fun r=>κ (.ret (.agg [(iI r.1),(iI r.2.1),(.str r.2.2.1),(bq [] .nil),(sT r.2.2.2.1),(sB r.2.2.2.2)]) [])
noncomputable def jm {S:Type} (κ:Out UU→Option S):Tm×Bool×Int→Option S:=fun r=>κ (.ret (.tuple [(aT r.1),(.bool r.2.1),(iI r.2.2)]) [])
noncomputable def xx {S:Type} (κ:Out UU→Option S):List (Br Tm)→Option S:=fun r=>κ (.ret (ws r) [])
noncomputable def aft {S:Type} (κ:Out UU→Option S):List (Br Tm)→Option S:=fun r=>κ (.ret (sB r) [])
noncomputable def afu {S:Type} (c0:Int) (κ:Out UU→Option S):Cl×Bool→Option S:=fun r=>κ (.ret (.tuple [(aC r.1),(.bool r.2)]) [bI c0])
noncomputable def xy {S:Type} (c0:Int) (κ:Out UU→Option S):List Cl→Option S:=fun r=>κ (.ret (sC r) [bI c0])
noncomputable def Lj {S:Type} (c1:Tm) (c2_1:List Cl) (c2_2 c2_3:Int) (c2_4:ByteArray) (c2_5:List Cl) (c2_6:List Tm) (c2_7 c2_8:List (Br Tm)) (c2_9 c2_10:Int) (c2_11:ByteArray) (c2_12:List Cl) (c2_13:List Tm) (c2_14:List (Br Tm)) (c2_15 c2_16:Int) (c2_17:ByteArray) (c2_18:List Cl) (c2_19:List Tm) (c2_20:List (Br Tm)) (κ:Out UU→Option S):Tm×Int→Option S:=fun r=>κ (.ret (aT r.1) [.cells [(pt 2)],bT c1,.cells [(iI r.2),(sC c2_1),(iI c2_2),(iI c2_3),(.str c2_4),(sC c2_5),(sT c2_6),(sB c2_7),(sB c2_8),(iI c2_9),(iI c2_10),(.str c2_11),(sC c2_12),(sT c2_13),(sB c2_14),(iI c2_15),(iI c2_16),(.str c2_17),(sC c2_18),(sT c2_19),(sB c2_20)]])
noncomputable def afv {S:Type} (κ:Out UU→Option S):Tm×Int→Option S:=fun r=>κ (.ret (aT r.1) [.cells [.int .i64 2,(iI r.2)]])
noncomputable def afw {S:Type} (c0_1:List Cl) (c0_2 c0_3:Int) (c0_4:ByteArray) (c0_5:List Cl) (c0_6:List Tm) (c0_7 c0_8:List (Br Tm)) (c0_9 c0_10:Int) (c0_11:ByteArray) (c0_12:List Cl) (c0_13:List Tm) (c0_14:List (Br Tm)) (c0_15 c0_16:Int) (c0_17:ByteArray) (c0_18:List Cl) (c0_19:List Tm) (c0_20:List (Br Tm)) (c2:Tm) (κ:Out UU→Option S):List (Br Tm)×Int→Option S:=fun r=>κ (.ret (bX r.1 .full) [.cells [(iI r.2),(sC c0_1),(iI c0_2),(iI c0_3),(.str c0_4),(sC c0_5),(sT c0_6),(sB c0_7),(sB c0_8),(iI c0_9),(iI c0_10),(.str c0_11),(sC c0_12),(sT c0_13),(sB c0_14),(iI c0_15),(iI c0_16),(.str c0_17),(sC c0_18),(sT c0_19),(sB c0_20)],.cells [(pt 0)],bT c2])
noncomputable def afx {S:Type} (c1_1:List Cl) (c1_2 c1_3:Int) (c1_4:ByteArray) (c1_5:List Cl) (c1_6:List Tm) (c1_7 c1_8:List (Br Tm)) (c1_9 c1_10:Int) (c1_11:ByteArray) (c1_12:List Cl) (c1_13:List Tm) (c1_14:List (Br Tm)) (c1_15 c1_16:Int) (c1_17:ByteArray) (c1_18:List Cl) (c1_19:List Tm) (c1_20:List (Br Tm)) (κ:Out UU→Option S):(Br Tm)×Int→Option S:=fun r=>κ (.ret (aB r.1) [.cells [(pt 1)],.cells [(iI r.2),(sC c1_1),(iI c1_2),(iI c1_3),(.str c1_4),(sC c1_5),(sT c1_6),(sB c1_7),(sB c1_8),(iI c1_9),(iI c1_10),(.str c1_11),(sC c1_12),(sT c1_13),(sB c1_14),(iI c1_15),(iI c1_16),(.str c1_17),(sC c1_18),(sT c1_19),(sB c1_20)]])
noncomputable def xz {S:Type} (c1_1:List Cl) (c1_2 c1_3:Int) (c1_4:ByteArray) (c1_5:List Cl) (c1_6:List Tm) (c1_7 c1_8:List (Br Tm)) (c1_9 c1_10:Int) (c1_11:ByteArray) (c1_12:List Cl) (c1_13:List Tm) (c1_14:List (Br Tm)) (c1_15 c1_16:Int) (c1_17:ByteArray) (c1_18:List Cl) (c1_19:List Tm) (c1_20:List (Br Tm)) (κ:Out UU→Option S):List (Br Tm)×Int→Option S:=fun r=>κ (.ret (ws r.1) [.cells [(pt 1)],.cells [(iI r.2),(sC c1_1),(iI c1_2),(iI c1_3),(.str c1_4),(sC c1_5),(sT c1_6),(sB c1_7),(sB c1_8),(iI c1_9),(iI c1_10),(.str c1_11),(sC c1_12),(sT c1_13),(sB c1_14),(iI c1_15),(iI c1_16),(.str c1_17),(sC c1_18),(sT c1_19),(sB c1_20)]])
noncomputable def xA {S:Type} (c0_1:List Cl) (c0_2 c0_3:Int) (c0_4:ByteArray) (c0_5:List Cl) (c0_6:List Tm) (c0_7:List (Br Tm)) (c0_15 c0_16:Int) (c0_17:ByteArray) (c0_18:List Cl) (c0_19:List Tm) (c0_20:List (Br Tm)) (κ:Out UU→Option S):Int×List (Br Tm)×Int×Int×ByteArray×List Cl×List Tm×List (Br Tm)→Option S:=fun r=>κ (.ret (.tuple []) [.cells [(iI r.1),(sC c0_1),(iI c0_2),(iI c0_3),(.str c0_4),(sC c0_5),(sT c0_6),(sB c0_7),(sB r.2.1),(iI r.2.2.1),(iI r.2.2.2.1),(.str r.2.2.2.2.1),(sC r.2.2.2.2.2.1),(sT r.2.2.2.2.2.2.1),(sB r.2.2.2.2.2.2.2),(iI c0_15),(iI c0_16),(.str c0_17),(sC c0_18),(sT c0_19),(sB c0_20)]])
noncomputable def afy {S:Type} (κ:Out UU→Option S):Int×Int×ByteArray×List Tm×Int→Option S:=fun r=>κ (.ret (.agg [(iI r.1),(iI r.2.1),(.str r.2.2.1),(bq [] .nil),(sT r.2.2.2.1),(bX [] .nil)]) [bI r.2.2.2.2])
noncomputable def afz {S:Type} (c1:Tm) (c2_1:List Cl) (c2_2 c2_3:Int) (c2_4:ByteArray) (c2_5:List Cl) (c2_6:List Tm) (c2_7 c2_8:List (Br Tm)) (c2_9 c2_10:Int) (c2_11:ByteArray) (c2_12:List Cl) (c2_13:List Tm) (c2_14:List (Br Tm)) (c2_15 c2_16:Int) (c2_17:ByteArray) (c2_18:List Cl) (c2_19:List Tm) (c2_20:List (Br Tm)) (κ:Out UU→Option S):Int×Int×ByteArray×List Cl×List Tm×Int→Option S:=fun r=>κ (.ret (.agg [(iI r.1),(iI r.2.1),(.str r.2.2.1),(sC r.2.2.2.1),(sT r.2.2.2.2.1),(bX [] .nil)]) [.cells [(pt 2)],bT c1,.cells [(iI r.2.2.2.2.2),(sC c2_1),(iI c2_2),(iI c2_3),(.str c2_4),(sC c2_5),(sT c2_6),(sB c2_7),(sB c2_8),(iI c2_9),(iI c2_10),(.str c2_11),(sC c2_12),(sT c2_13),(sB c2_14),(iI c2_15),(iI c2_16),(.str c2_17),(sC c2_18),(sT c2_19),(sB c2_20)]])
noncomputable def Lk {S:Type} (c2:Tm) (c3_1:List Cl) (c3_2 c3_3:Int) (c3_4:ByteArray) (c3_5:List Cl) (c3_6:List Tm) (c3_7 c3_8:List (Br Tm)) (c3_9 c3_10:Int) (c3_11:ByteArray) (c3_12:List Cl) (c3_13:List Tm) (c3_14:List (Br Tm)) (c3_15 c3_16:Int) (c3_17:ByteArray) (c3_18:List Cl) (c3_19:List Tm) (c3_20:List (Br Tm)) (κ:Out UU→Option S):Int×Int×ByteArray×List Cl×List Tm×Int→Option S:=fun r=>κ (.ret (.agg [(iI r.1),(iI r.2.1),(.str r.2.2.1),(sC r.2.2.2.1),(sT r.2.2.2.2.1),(bX [] .nil)]) [.cells [(.func 135 [] [(pt 1),(pt 2)])],.cells [(pt 3)],bT c2,.cells [(iI r.2.2.2.2.2),(sC c3_1),(iI c3_2),(iI c3_3),(.str c3_4),(sC c3_5),(sT c3_6),(sB c3_7),(sB c3_8),(iI c3_9),(iI c3_10),(.str c3_11),(sC c3_12),(sT c3_13),(sB c3_14),(iI c3_15),(iI c3_16),(.str c3_17),(sC c3_18),(sT c3_19),(sB c3_20)]])
noncomputable def afA {S:Type} (κ:Out UU→Option S):Int×Int×ByteArray×List Cl×List Tm×Int→Option S:=fun r=>κ (.ret (.agg [(iI r.1),(iI r.2.1),(.str r.2.2.1),(sC r.2.2.2.1),(sT r.2.2.2.2.1),(bX [] .nil)]) [.cells [.int .i64 3,(iI r.2.2.2.2.2)]])
noncomputable def afB {S:Type} (c0_1:List Cl) (c0_2 c0_3:Int) (c0_4:ByteArray) (c0_5:List Cl) (c0_6:List Tm) (c0_7 c0_8:List (Br Tm)) (c0_9 c0_10:Int) (c0_11:ByteArray) (c0_12:List Cl) (c0_13:List Tm) (c0_14:List (Br Tm)) (c0_15 c0_16:Int) (c0_17:ByteArray) (c0_18:List Cl) (c0_19:List Tm) (c0_20:List (Br Tm)) (c3:Tm) (κ:Out UU→Option S):List (Br Tm)×Int→Option S:=fun r=>κ (.ret (bX r.1 .full) [.cells [(iI r.2),(sC c0_1),(iI c0_2),(iI c0_3),(.str c0_4),(sC c0_5),(sT c0_6),(sB c0_7),(sB c0_8),(iI c0_9),(iI c0_10),(.str c0_11),(sC c0_12),(sT c0_13),(sB c0_14),(iI c0_15),(iI c0_16),(.str c0_17),(sC c0_18),(sT c0_19),(sB c0_20)],.cells [(.func 135 [] [(pt 2),(pt 3)])],.cells [(pt 0)],bT c3])
noncomputable def afC {S:Type} (c2:Tm) (c3_1:List Cl) (c3_2 c3_3:Int) (c3_4:ByteArray) (c3_5:List Cl) (c3_6:List Tm) (c3_7 c3_8:List (Br Tm)) (c3_9 c3_10:Int) (c3_11:ByteArray) (c3_12:List Cl) (c3_13:List Tm) (c3_14:List (Br Tm)) (c3_15 c3_16:Int) (c3_17:ByteArray) (c3_18:List Cl) (c3_19:List Tm) (c3_20:List (Br Tm)) (κ:Out UU→Option S):(Br Tm)×Int→Option S:=fun r=>κ (.ret (aB r.1) [.cells [(.func 135 [] [(pt 1),(pt 2)])],.cells [(pt 3)],bT c2,.cells [(iI r.2),(sC c3_1),(iI c3_2),(iI c3_3),(.str c3_4),(sC c3_5),(sT c3_6),(sB c3_7),(sB c3_8),(iI c3_9),(iI c3_10),(.str c3_11),(sC c3_12),(sT c3_13),(sB c3_14),(iI c3_15),(iI c3_16),(.str c3_17),(sC c3_18),(sT c3_19),(sB c3_20)]])
noncomputable def xB {S:Type} (c2:Tm) (c3_1:List Cl) (c3_2 c3_3:Int) (c3_4:ByteArray) (c3_5:List Cl) (c3_6:List Tm) (c3_7 c3_8:List (Br Tm)) (c3_9 c3_10:Int) (c3_11:ByteArray) (c3_12:List Cl) (c3_13:List Tm) (c3_14:List (Br Tm)) (c3_15 c3_16:Int) (c3_17:ByteArray) (c3_18:List Cl) (c3_19:List Tm) (c3_20:List (Br Tm)) (κ:Out UU→Option S):List (Br Tm)×Int→Option S:=fun r=>κ (.ret (ws r.1) [.cells [(.func 135 [] [(pt 1),(pt 2)])],.cells [(pt 3)],bT c2,.cells [(iI r.2),(sC c3_1),(iI c3_2),(iI c3_3),(.str c3_4),(sC c3_5),(sT c3_6),(sB c3_7),(sB c3_8),(iI c3_9),(iI c3_10),(.str c3_11),(sC c3_12),(sT c3_13),(sB c3_14),(iI c3_15),(iI c3_16),(.str c3_17),(sC c3_18),(sT c3_19),(sB c3_20)]])
noncomputable def afD {S:Type} (c0_1:List Cl) (c0_2 c0_3:Int) (c0_4:ByteArray) (c0_5:List Cl) (c0_6:List Tm) (c0_7 c0_8:List (Br Tm)) (c0_9 c0_10:Int) (c0_11:ByteArray) (c0_12:List Cl) (c0_13:List Tm) (c0_14:List (Br Tm)) (c0_15 c0_16:Int) (c0_17:ByteArray) (c0_18:List Cl) (c0_19:List Tm) (c0_20:List (Br Tm)) (κ:Out UU→Option S):Int×Int×ByteArray×List Tm×List (Br Tm)×Int→Option S:=fun r=>κ (.ret (.agg [(iI r.1),(iI r.2.1),(.str r.2.2.1),(bq [] .nil),(sT r.2.2.2.1),(sB r.2.2.2.2.1)]) [.cells [(iI r.2.2.2.2.2),(sC c0_1),(iI c0_2),(iI c0_3),(.str c0_4),(sC c0_5),(sT c0_6),(sB c0_7),(sB c0_8),(iI c0_9),(iI c0_10),(.str c0_11),(sC c0_12),(sT c0_13),(sB c0_14),(iI c0_15),(iI c0_16),(.str c0_17),(sC c0_18),(sT c0_19),(sB c0_20)]])
noncomputable def afE {S:Type} (c1_1:List Cl) (c1_2 c1_3:Int) (c1_4:ByteArray) (c1_5:List Cl) (c1_6:List Tm) (c1_7 c1_8:List (Br Tm)) (c1_9 c1_10:Int) (c1_11:ByteArray) (c1_12:List Cl) (c1_13:List Tm) (c1_14:List (Br Tm)) (c1_15 c1_16:Int) (c1_17:ByteArray) (c1_18:List Cl) (c1_19:List Tm) (c1_20:List (Br Tm)) (κ:Out UU→Option S):Int×Int×ByteArray×List Tm×List (Br Tm)×Int→Option S:=fun r=>κ (.ret (.agg [(iI r.1),(iI r.2.1),(.str r.2.2.1),(bq [] .nil),(sT r.2.2.2.1),(sB r.2.2.2.2.1)]) [.cells [(pt 1)],.cells [(iI r.2.2.2.2.2),(sC c1_1),(iI c1_2),(iI c1_3),(.str c1_4),(sC c1_5),(sT c1_6),(sB c1_7),(sB c1_8),(iI c1_9),(iI c1_10),(.str c1_11),(sC c1_12),(sT c1_13),(sB c1_14),(iI c1_15),(iI c1_16),(.str c1_17),(sC c1_18),(sT c1_19),(sB c1_20)]])
noncomputable def xD {S:Type} (c1_1:List Cl) (c1_2 c1_3:Int) (c1_4:ByteArray) (c1_5:List Cl) (c1_6:List Tm) (c1_7 c1_8:List (Br Tm)) (c1_9 c1_10:Int) (c1_11:ByteArray) (c1_12:List Cl) (c1_13:List Tm) (c1_14:List (Br Tm)) (c1_15 c1_16:Int) (c1_17:ByteArray) (c1_18:List Cl) (c1_19:List Tm) (c1_20:List (Br Tm)) (κ:Out UU→Option S):List Tm×Int→Option S:=fun r=>κ (.ret (H3 r.1) [.cells [(pt 1)],.cells [(iI r.2),(sC c1_1),(iI c1_2),(iI c1_3),(.str c1_4),(sC c1_5),(sT c1_6),(sB c1_7),(sB c1_8),(iI c1_9),(iI c1_10),(.str c1_11),(sC c1_12),(sT c1_13),(sB c1_14),(iI c1_15),(iI c1_16),(.str c1_17),(sC c1_18),(sT c1_19),(sB c1_20)]])
noncomputable def Lm {S:Type} (c1_1:List Cl) (c1_2 c1_3:Int) (c1_4:ByteArray) (c1_5:List Cl) (c1_6:List Tm) (c1_7 c1_8:List (Br Tm)) (c1_9 c1_10:Int) (c1_11:ByteArray) (c1_12:List Cl) (c1_13:List Tm) (c1_14:List (Br Tm)) (c1_15 c1_16:Int) (c1_17:ByteArray) (c1_18:List Cl) (c1_19:List Tm) (c1_20:List (Br Tm)) (κ:Out UU→Option S):Tm×Int→Option S:=fun r=>κ (.ret (aT r.1) [.cells [(pt 1)],.cells [(iI r.2),(sC c1_1),(iI c1_2),(iI c1_3),(.str c1_4),(sC c1_5),(sT c1_6),(sB c1_7),(sB c1_8),(iI c1_9),(iI c1_10),(.str c1_11),(sC c1_12),(sT c1_13),(sB c1_14),(iI c1_15),(iI c1_16),(.str c1_17),(sC c1_18),(sT c1_19),(sB c1_20)]])
noncomputable def afF {S:Type} (κ:Out UU→Option S):Tm×Int→Option S:=fun r=>κ (.ret (aT r.1) [.cells [.int .i64 1,(iI r.2)]])
noncomputable def afG {S:Type} (c0_1:List Cl) (c0_2 c0_3:Int) (c0_4:ByteArray) (c0_5:List Cl) (c0_6:List Tm) (c0_7 c0_8:List (Br Tm)) (c0_9 c0_10:Int) (c0_11:ByteArray) (c0_12:List Cl) (c0_13:List Tm) (c0_14:List (Br Tm)) (c0_15 c0_16:Int) (c0_17:ByteArray) (c0_18:List Cl) (c0_19:List Tm) (c0_20:List (Br Tm)) (κ:Out UU→Option S):List (Br Tm)×Int→Option S:=fun r=>κ (.ret (bX r.1 .full) [.cells [(iI r.2),(sC c0_1),(iI c0_2),(iI c0_3),(.str c0_4),(sC c0_5),(sT c0_6),(sB c0_7),(sB c0_8),(iI c0_9),(iI c0_10),(.str c0_11),(sC c0_12),(sT c0_13),(sB c0_14),(iI c0_15),(iI c0_16),(.str c0_17),(sC c0_18),(sT c0_19),(sB c0_20)],.cells [(pt 0)]])
noncomputable def xE {S:Type} (κ:Out UU→Option S):List Int→Option S:=fun r=>κ (.ret (frI r) [])
end
end Go.Proofs.YtgajalidbabccaaGreatDoor
namespace Go.Proofs.YtgajalidbabccaaGreatDoor
open Go PI
set_option linter.unusedVariables false
set_option maxRecDepth 100000
noncomputable section
def C0 {S:Type} (hd:fO S):Rw S:=ae wB xn fun t most κ=>hd t most (ay κ)
def kI {S:Type} (hd:fO S) (k:Nat):Fx S:=fp 119 [(9,C0 hd)] [(5,aE [1,2,5,6] [(2,6)],am 6 23),(9,aE [1,2,5,7] [(2,6)],am 7 47),(15,aE [1,2,5,7,8] [(2,6)],am 15 14639)] k Tryz.f9 0
def Co (t:Tm) (most:Int) (v5 i6:Int):St UU:=⟨[(1,(iI most)),(2,(pt 2)),(5,(iI v5)),(6,(iI i6))],[(2,bT t)],[],[]⟩
def rM (t:Tm) (most:Int) (v5' i7:Int):St UU:=⟨[(1,(iI most)),(2,(pt 2)),(5,(iI v5')),(7,(iI i7))],[(2,bT t)],[],[]⟩
def I8 (t:Tm) (most i7:Int) (v5'' v8:Int):St UU:=⟨[(1,(iI most)),(2,(pt 2)),(5,(iI v5'')),(7,(iI i7)),(8,(iI v8))],[(2,bT t)],[],[]⟩
section
variable {S:Type} (hd:fO S) (k:Nat) (t:Tm) (most:Int) (κ:Out UU→Option S)
theorem Uv (i7 κ1): ∀n v5'' v8,(kI hd k).lp κ 15 [κ1] n (I8 t most i7 v5'' v8)=jb hd k (ay κ) (fun v5' i7=>κ1 (rM t most v5' i7)) t most i7 n v5'' v8:=aA (ur hd k (ay κ) t most i7 (fun v5' i7=>κ1 (rM t most v5' i7))) rfl (fun _=>rfl) fun r v5'' v8=>by kernel_rfl
theorem Uu: ∀n v5' i7,(kI hd k).lp κ 9 [] n (rM t most v5' i7)=g4 hd k (ay κ) t most n v5' i7:=aA (fun own=>pL hd k (ay κ) t most (fun i7 v5'' v8=>jb hd k (ay κ) own t most i7 k v5'' v8) own) rfl (fun _=>rfl) fun r v5' i7=>Eq.trans (b:=pL hd k (ay κ) t most (fun i7 v5'' v8=>(kI hd k).lp κ 15 [r] k (I8 t most i7 v5'' v8)) (fun v5' i7=>r (rM t most v5' i7)) v5' i7) (by kernel_rfl) (by simp only [Uv])
theorem Ut: ∀n v5 i6,(kI hd k).lp κ 5 [] n (Co t most v5 i6)=lM hd k (ay κ) t most n v5 i6:=aA (fun own=>pK hd k (ay κ) t most (fun v5' i7=>g4 hd k (ay κ) t most k v5' i7) own) rfl (fun _=>rfl) fun r v5 i6=>Eq.trans (b:=pK hd k (ay κ) t most (fun v5' i7=>(kI hd k).lp κ 9 [] k (rM t most v5' i7)) (fun v5 i6=>r (Co t most v5 i6)) v5 i6) (by kernel_rfl) (by simp only [Uu])
end
theorem Ia {S:Type} (o:Obj) (ho:ad o): ∀k:Nat,Tl o 9 (C0 (fq k:fO S))
 |0=>dx fun t most κ x h=>by cases h
 |k+1=>af (kI (fq k) k) ⟨Ia o ho k,trivial⟩ Tryz.func9 (by kernel_rfl) fun t most κ x h=>Eq.trans (b:=E6 (fq k) k (ay κ) (fun v5 i6=>(kI (fq k) k).lp κ 5 [] k (Co t most v5 i6)) t most) (by kernel_rfl) (Eq.trans (by simp only [Ut];rfl) h)
def Ln {S:Type} (k:Nat):Rw S:=ae BH xn fun kind kids κ=>aa k (eQ k kind kids) (xg κ)
def Ru {S:Type} (k:Nat):Fx S:=fx 8 (fun _=>[]) (fun _=>false) [] [] k Tryz.f34 true [] 0
theorem XK {S:Type} (o:Obj) (ho:ad o) (k:Nat):Tl o 34 (Ln k:Rw S):=af (Ru k) trivial Tryz.func34 (by kernel_rfl) fun kind kids κ x h=>Eq.trans (by kernel_rfl) (ag h)
def hU {S:Type} (k:Nat):Rw S:=ae IA xn fun kind kid κ=>aa k (fw k kind kid) (jl κ)
def SU {S:Type} (k:Nat):Fx S:=fp 26 [] [] k Tryz.f49 0
theorem iL {S:Type} (o:Obj) (ho:ad o) (k:Nat):Tl o 49 (hU k:Rw S):=af (SU k) trivial Tryz.func49 (by kernel_rfl) fun kind kid κ x h=>Eq.trans (by kernel_rfl) (ag h)
def sU {S:Type} (hd:cX S):Rw S:=ae wB xn fun t left κ=>hd t left (ar κ)
def Ng {S:Type} (hd:cX S) (k:Nat):Rw S:=ae wF bm fun a_k p p' c0 κ=>aa k (qR hd k a_k p p' c0) (dV c0 κ)
def TB {S:Type} (hd:cX S) (k:Nat):Fx S:=fp 12 [(113,sU hd)] [] k Tryz.f198 1
theorem ZB {S:Type} (o:Obj) (ho:ad o) (hd:cX S) (Hd:Tl o 113 (sU hd)) (k:Nat):Tl o 198 (Ng hd k:Rw S):=af (TB hd k) ⟨Hd,trivial⟩ Tryz.func198 (by kernel_rfl) fun a_k p p' c0 κ x h=>Eq.trans (by kernel_rfl) (ag h)
def Nl {S:Type} (hd:cX S) (k:Nat):Rw S:=ae kX5 bm fun t c0 κ=>aa k (AV hd k t c0) (dV c0 κ)
def kS {S:Type} (hd:cX S) (k:Nat):Fx S:=fp 60 [(49,hU k),(198,Ng hd k)] [(2,aE [1,2,15,16,17] [(2,6),(1000000,1)],am 4 5),(12,aE [1,9,40,41,42] [(1000000,1)],am 7 47),(15,aE [1,9,40,41,42,47,48,49] [(1000000,1)],am 15 13103)] k Tryz.f116 1
def CE (c0:Int) (t:Tm) (v17:Int):St UU:=⟨[(1,(.func 198 [] [(pt 1000000)])),(2,(pt 2)),(15,(sT t.kids)),(16,(.int .i64 (t.kids.length:Int))),(17,(iI v17))],[(2,bT t),(1000000,bI c0)],[],[]⟩
def sh (c0:Int) (t:Tm) (v42 more9:Int):St UU:=⟨[(1,(.func 198 [] [(pt 1000000)])),(9,(iI more9)),(40,(sB t.sys)),(41,(.int .i64 (t.sys.length:Int))),(42,(iI v42))],[(1000000,bI c0)],[],[]⟩
def Ku (c0:Int) (t:Tm) (v42:Int) (x4:(Br Tm)) (more9:Int) (v49:Int):St UU:=⟨[(1,(.func 198 [] [(pt 1000000)])),(9,(iI more9)),(40,(sB t.sys)),(41,(.int .i64 (t.sys.length:Int))),(42,(iI v42)),(47,(sT x4.kids)),(48,(.int .i64 (x4.kids.length:Int))),(49,(iI v49))],[(1000000,bI c0)],[],[]⟩
section
variable {S:Type} (hd:cX S) (k:Nat) (t:Tm) (c0:Int) (κ:Out UU→Option S)
theorem Wo (v42 x4 more9 κ1): ∀n v49,(kS hd k).lp κ 15 [κ1] n (Ku c0 t v42 x4 more9 v49)=lU hd k (dV c0 κ) (fun v42 more9=>κ1 (sh c0 t v42 more9)) c0 t v42 x4 more9 n v49:=b9 (uH hd k (dV c0 κ) c0 t v42 x4 more9 (fun v42 more9=>κ1 (sh c0 t v42 more9))) rfl (fun _=>rfl) fun r v49=>by kernel_rfl
theorem Wn: ∀n v42 more9,(kS hd k).lp κ 12 [] n (sh c0 t v42 more9)=g6 hd k (dV c0 κ) c0 t n v42 more9:=aA (fun own=>p7 hd k (dV c0 κ) c0 t (fun v42 x4 more9 v49=>lU hd k (dV c0 κ) own c0 t v42 x4 more9 k v49) own) rfl (fun _=>rfl) fun r v42 more9=>Eq.trans (b:=p7 hd k (dV c0 κ) c0 t (fun v42 x4 more9 v49=>(kS hd k).lp κ 15 [r] k (Ku c0 t v42 x4 more9 v49)) (fun v42 more9=>r (sh c0 t v42 more9)) v42 more9) (by kernel_rfl) (by simp only [Wo])
theorem Wm: ∀n v17,(kS hd k).lp κ 2 [] n (CE c0 t v17)=oj hd k (dV c0 κ) c0 t n v17:=b9 (fun own=>p6 hd k (dV c0 κ) c0 t (fun v42 more9=>g6 hd k (dV c0 κ) c0 t k v42 more9) own) rfl (fun _=>rfl) fun r v17=>Eq.trans (b:=p6 hd k (dV c0 κ) c0 t (fun v42 more9=>(kS hd k).lp κ 12 [] k (sh c0 t v42 more9)) (fun v17=>r (CE c0 t v17)) v17) (by kernel_rfl) (by simp only [Wn])
end
theorem ZH {S:Type} (o:Obj) (ho:ad o) (hd:cX S) (Hd:Tl o 113 (sU hd)) (k:Nat):Tl o 116 (Nl hd k:Rw S):=af (kS hd k) ⟨iL o ho k,ZB o ho hd Hd k,trivial⟩ Tryz.func116 (by kernel_rfl) fun t c0 κ x h=>Eq.trans (b:=Fl hd k (dV c0 κ) (fun v17=>(kS hd k).lp κ 2 [] k (CE c0 t v17)) t c0) (by kernel_rfl) (Eq.trans (by simp only [Wm];rfl) (ag h))
def Tt {S:Type} (hd:cX S) (k:Nat):Fx S:=fp 12 [(116,Nl hd k)] [] k Tryz.f113 0
theorem Il {S:Type} (o:Obj) (ho:ad o): ∀k:Nat,Tl o 113 (sU (gV k:cX S))
 |0=>dx fun t left κ x h=>by cases h
 |k+1=>af (Tt (gV k) k) ⟨ZH o ho (gV k) (Il o ho k) k,trivial⟩ Tryz.func113 (by kernel_rfl) fun t left κ x h=>Eq.trans (by kernel_rfl) h
def xY {S:Type} (hd:cW S):Rw S:=ae kX6 Rq fun t c1 κ=>hd t c1 (e_ κ)
def DB {S:Type} (hd:cW S) (k:Nat):Rw S:=ae IQ xX9 fun t c0 κ=>aa k (nd hd k t c0) (qX6 κ)
def TZ {S:Type} (hd:cW S) (k:Nat):Fx S:=fp 14 [(116,xY hd)] [] k Tryz.f199 2
theorem HN {S:Type} (o:Obj) (ho:ad o) (hd:cW S) (Hd:Tl o 116 (xY hd)) (k:Nat):Tl o 199 (DB hd k:Rw S):=af (TZ hd k) ⟨Hd,trivial⟩ Tryz.func199 (by kernel_rfl) fun t c0 κ x h=>Eq.trans (by kernel_rfl) (ag h)
def NE {S:Type} (hd:cW S) (k:Nat):Rw S:=ae wF Rq fun a_k p p' c1 κ=>aa k (qS hd k a_k p p' c1) (e_ κ)
def T_ {S:Type} (hd:cW S) (k:Nat):Fx S:=fp 11 [(199,DB hd k)] [] k Tryz.f200 2
theorem ZY {S:Type} (o:Obj) (ho:ad o) (hd:cW S) (Hd:Tl o 116 (xY hd)) (k:Nat):Tl o 200 (NE hd k:Rw S):=af (T_ hd k) ⟨HN o ho hd Hd k,trivial⟩ Tryz.func200 (by kernel_rfl) fun a_k p p' c1 κ x h=>Eq.trans (by kernel_rfl) (ag h)
def kT {S:Type} (hd:cW S) (k:Nat):Fx S:=fp 60 [(49,hU k),(200,NE hd k)] [(2,aE [1,2,15,16,17] [(2,6),(1000000,1),(1000001,1)],am 4 5),(12,aE [1,9,40,41,42] [(1000000,1),(1000001,1)],am 7 47),(15,aE [1,9,40,41,42,47,48,49] [(1000000,1),(1000001,1)],am 15 13103)] k Tryz.f116 2
def CF (t:Tm) (e1_0 v17:Int):St UU:=⟨[(1,(.func 200 [] [(pt 1000000)])),(2,(pt 2)),(15,(sT t.kids)),(16,(.int .i64 (t.kids.length:Int))),(17,(iI v17))],[(2,bT t),(1000000,.cells [(.func 199 [] [(pt 1000001),(pt 1000000)])]),(1000001,bI e1_0)],[],[]⟩
def si (t:Tm) (e1_0' v42 more9:Int):St UU:=⟨[(1,(.func 200 [] [(pt 1000000)])),(9,(iI more9)),(40,(sB t.sys)),(41,(.int .i64 (t.sys.length:Int))),(42,(iI v42))],[(1000000,.cells [(.func 199 [] [(pt 1000001),(pt 1000000)])]),(1000001,bI e1_0')],[],[]⟩
def Kx (t:Tm) (v42:Int) (x4:(Br Tm)) (more9:Int) (e1_0'' v49:Int):St UU:=⟨[(1,(.func 200 [] [(pt 1000000)])),(9,(iI more9)),(40,(sB t.sys)),(41,(.int .i64 (t.sys.length:Int))),(42,(iI v42)),(47,(sT x4.kids)),(48,(.int .i64 (x4.kids.length:Int))),(49,(iI v49))],[(1000000,.cells [(.func 199 [] [(pt 1000001),(pt 1000000)])]),(1000001,bI e1_0'')],[],[]⟩
section
variable {S:Type} (hd:cW S) (k:Nat) (t:Tm) (c1:Int) (κ:Out UU→Option S)
theorem Wt (v42 x4 more9 κ1): ∀n e1_0'' v49,(kT hd k).lp κ 15 [κ1] n (Kx t v42 x4 more9 e1_0'' v49)=jg hd k (e_ κ) (fun e1_0' v42 more9=>κ1 (si t e1_0' v42 more9)) t v42 x4 more9 n e1_0'' v49:=aA (uF hd k (e_ κ) t v42 x4 more9 (fun e1_0' v42 more9=>κ1 (si t e1_0' v42 more9))) rfl (fun _=>rfl) fun r e1_0'' v49=>by kernel_rfl
theorem Ws: ∀n e1_0' v42 more9,(kT hd k).lp κ 12 [] n (si t e1_0' v42 more9)=gi hd k (e_ κ) t n e1_0' v42 more9:=dT (fun own=>pZ hd k (e_ κ) t (fun v42 x4 more9 e1_0'' v49=>jg hd k (e_ κ) own t v42 x4 more9 k e1_0'' v49) own) rfl (fun _=>rfl) fun r e1_0' v42 more9=>Eq.trans (b:=pZ hd k (e_ κ) t (fun v42 x4 more9 e1_0'' v49=>(kT hd k).lp κ 15 [r] k (Kx t v42 x4 more9 e1_0'' v49)) (fun e1_0' v42 more9=>r (si t e1_0' v42 more9)) e1_0' v42 more9) (by kernel_rfl) (by simp only [Wt])
theorem Wr: ∀n e1_0 v17,(kT hd k).lp κ 2 [] n (CF t e1_0 v17)=lR hd k (e_ κ) t n e1_0 v17:=aA (fun own=>pY hd k (e_ κ) t (fun e1_0' v42 more9=>gi hd k (e_ κ) t k e1_0' v42 more9) own) rfl (fun _=>rfl) fun r e1_0 v17=>Eq.trans (b:=pY hd k (e_ κ) t (fun e1_0' v42 more9=>(kT hd k).lp κ 12 [] k (si t e1_0' v42 more9)) (fun e1_0 v17=>r (CF t e1_0 v17)) e1_0 v17) (by kernel_rfl) (by simp only [Ws])
end
theorem Io {S:Type} (o:Obj) (ho:ad o): ∀k:Nat,Tl o 116 (xY (ep k:cW S))
 |0=>dx fun t c1 κ x h=>by cases h
 |k+1=>af (kT (ep k) k) ⟨iL o ho k,ZY o ho (ep k) (Io o ho k) k,trivial⟩ Tryz.func116 (by kernel_rfl) fun t c1 κ x h=>Eq.trans (b:=Fj (ep k) k (e_ κ) (fun e1_0 v17=>(kT (ep k) k).lp κ 2 [] k (CF t e1_0 v17)) t c1) (by kernel_rfl) (Eq.trans (by simp only [Wr];rfl) h)
def NL {S:Type} (k:Nat):Rw S:=ae wB xn fun t most κ=>aa k (vM k t most) (ar κ)
def Uf {S:Type} (k:Nat):Fx S:=fp 10 [(199,DB (ep k) k)] [] k Tryz.f114 0
theorem Z5 {S:Type} (o:Obj) (ho:ad o) (k:Nat):Tl o 114 (NL k:Rw S):=af (Uf k) ⟨HN o ho (ep k) (Io o ho k) k,trivial⟩ Tryz.func114 (by kernel_rfl) fun t most κ x h=>Eq.trans (by kernel_rfl) (ag h)
def Lo {S:Type} (k:Nat):Rw S:=ae c6 xn fun t κ=>aa k (vL k t) (ay κ)
def Rv {S:Type} (k:Nat):Fx S:=fp 11 [(113,sU (gV k)),(114,NL k)] [] k Tryz.f50 0
theorem XL {S:Type} (o:Obj) (ho:ad o) (k:Nat):Tl o 50 (Lo k:Rw S):=af (Rv k) ⟨Il o ho k,Z5 o ho k,trivial⟩ Tryz.func50 (by kernel_rfl) fun t κ x h=>Eq.trans (by kernel_rfl) (ag h)
def Lw {S:Type} (k:Nat):Rw S:=ae d6 xn fun kind κ=>aa k (vI k kind) (ay κ)
def RG {S:Type} (k:Nat):Fx S:=fp 38 [] [] k Tryz.f201 0
theorem XT {S:Type} (o:Obj) (ho:ad o) (k:Nat):Tl o 201 (Lw k:Rw S):=af (RG k) trivial Tryz.func201 (by kernel_rfl) fun kind κ x h=>Eq.trans (by kernel_rfl) (ag h)
def LA {S:Type} (k:Nat):Rw S:=ae d6 xn fun kind κ=>aa k (jL k kind) (ay κ)
def RO {S:Type} (k:Nat):Fx S:=fp 10 [] [] k Tryz.f202 0
theorem XX {S:Type} (o:Obj) (ho:ad o) (k:Nat):Tl o 202 (LA k:Rw S):=af (RO k) trivial Tryz.func202 (by kernel_rfl) fun kind κ x h=>Eq.trans (by kernel_rfl) (ag h)
def LK {S:Type} (k:Nat):Rw S:=ae Iy xn fun s κ=>aa k (vK k s) (ar κ)
def o0 {S:Type} (k:Nat):Fx S:=fp 49 [] [(2,aE [0,7,8] [],am 4 5),(1000006,aE [0,3,4,5,7,8] [],am 12 3685)] k Tryz.f203 0
def rR (s:ByteArray) (v8:Int):St UU:=⟨[(0,(.str s)),(7,(.int .i64 (s.size:Int))),(8,(iI v8))],[],[],[]⟩
def Jl (s:ByteArray) (v8:Int) (x1:UInt8) (letter5:Bool):St UU:=⟨[(0,(.str s)),(3,(iI v8)),(4,(.int .u8 (x1.toNat:Int))),(5,(.bool letter5)),(7,(.int .i64 (s.size:Int))),(8,(iI v8))],[],[],[]⟩
section
variable {S:Type} (k:Nat) (s:ByteArray) (κ:Out UU→Option S)
theorem US (v8 x1 κ0): ∀n letter5,(o0 k).jn κ 1000006 [κ0] n (Jl s v8 x1 letter5)=wS k (ar κ) (fun v8=>κ0 (rR s v8)) s v8 x1 n letter5:=BD (z8 k (ar κ) s v8 x1 (fun v8=>κ0 (rR s v8))) rfl (fun _=>rfl) (fun letter5=>by kernel_rfl)
theorem UR: ∀n v8,(o0 k).lp κ 2 [] n (rR s v8)=lV k (ar κ) s n v8:=b9 (fun own=>p8 k (ar κ) s (fun v8 x1 letter5=>wS k (ar κ) own s v8 x1 k letter5) own) rfl (fun _=>rfl) fun r v8=>Eq.trans (b:=p8 k (ar κ) s (fun v8 x1 letter5=>(o0 k).jn κ 1000006 [r] k (Jl s v8 x1 letter5)) (fun v8=>r (rR s v8)) v8) (by kernel_rfl) (by simp only [US])
end
theorem X6 {S:Type} (o:Obj) (ho:ad o) (k:Nat):Tl o 203 (LK k:Rw S):=af (o0 k) trivial Tryz.func203 (by kernel_rfl) fun s κ x h=>Eq.trans (b:=Fo k (ar κ) (fun v8=>(o0 k).lp κ 2 [] k (rR s v8)) s) (by kernel_rfl) (Eq.trans (by simp only [UR];rfl) (ag h))
def LQ {S:Type} (k:Nat):Rw S:=ae rm xn fun s κ=>aa k (mU k s) (ar κ)
def R5 {S:Type} (k:Nat):Fx S:=fp 6 [] [] k Tryz.f276 0
theorem Ya {S:Type} (o:Obj) (ho:ad o) (k:Nat):Tl o 276 (LQ k:Rw S):=af (R5 k) trivial Tryz.func276 (by kernel_rfl) fun s κ x h=>Eq.trans (by kernel_rfl) (ag h)
def Dd {S:Type} (k:Nat):Rw S:=ae lw xn fun c κ=>aa k (qh k c) (ar κ)
def Sf {S:Type} (k:Nat):Fx S:=fp 11 [(276,LQ k)] [] k Tryz.f224 0
theorem Hx {S:Type} (o:Obj) (ho:ad o) (k:Nat):Tl o 224 (Dd k:Rw S):=af (Sf k) ⟨Ya o ho k,trivial⟩ Tryz.func224 (by kernel_rfl) fun c κ x h=>Eq.trans (by kernel_rfl) (ag h)
def xJ {S:Type} (k:Nat):Rw S:=ae rn xn fun a b κ=>aa k (mM k a b) (Li κ)
def Sp {S:Type} (k:Nat):Fx S:=fp 16 [] [] k Tryz.f278 0
theorem A5 {S:Type} (o:Obj) (ho:ad o) (k:Nat):Tl o 278 (xJ k:Rw S):=af (Sp k) trivial Tryz.func278 (by kernel_rfl) fun a b κ x h=>Eq.trans (by kernel_rfl) (ag h)
def Md {S:Type} (k:Nat):Rw S:=ae rn xn fun a b κ=>aa k (uT k a b) (ar κ)
def Sz {S:Type} (k:Nat):Fx S:=fp 10 [(278,xJ k)] [] k Tryz.f229 0
theorem Yx {S:Type} (o:Obj) (ho:ad o) (k:Nat):Tl o 229 (Md k:Rw S):=af (Sz k) ⟨A5 o ho k,trivial⟩ Tryz.func229 (by kernel_rfl) fun a b κ x h=>Eq.trans (by kernel_rfl) (ag h)
def Mm {S:Type} (k:Nat):Rw S:=ae wD tr fun d c0 κ=>aa k (uV k d c0) (Ll c0 κ)
def SI {S:Type} (k:Nat):Fx S:=fp 12 [(229,Md k)] [] k Tryz.f228 1
theorem YH {S:Type} (o:Obj) (ho:ad o) (k:Nat):Tl o 228 (Mm k:Rw S):=af (SI k) ⟨Yx o ho k,trivial⟩ Tryz.func228 (by kernel_rfl) fun d c0 κ x h=>Eq.trans (by kernel_rfl) (ag h)
def Mx {S:Type} (k:Nat):Rw S:=ae Iz tr fun s c0 κ=>aa k (AP k s c0) (xF c0 κ)
def y_ {S:Type} (k:Nat):Fx S:=fp 19 [(228,Mm k)] [(2,aE [0,1,7,8] [(1000000,2)],am 4 5)] k Tryz.f277 1
def JB (c0:Cl) (s:List Cl) (v8:Int):St UU:=⟨[(0,(sC s)),(1,(.func 228 [] [(pt 1000000)])),(7,(.int .i64 (s.length:Int))),(8,(iI v8))],[(1000000,bC c0)],[],[]⟩
section
variable {S:Type} (k:Nat) (s:List Cl) (c0:Cl) (κ:Out UU→Option S)
theorem Ve: ∀n v8,(y_ k).lp κ 2 [] n (JB c0 s v8)=oh k (xF c0 κ) c0 s n v8:=b9 (uD k (xF c0 κ) c0 s) rfl (fun _=>rfl) fun r v8=>by kernel_rfl
end
theorem YT {S:Type} (o:Obj) (ho:ad o) (k:Nat):Tl o 277 (Mx k:Rw S):=af (y_ k) ⟨YH o ho k,trivial⟩ Tryz.func277 (by kernel_rfl) fun s c0 κ x h=>Eq.trans (b:=Fh k (xF c0 κ) (fun v8=>(y_ k).lp κ 2 [] k (JB c0 s v8)) s c0) (by kernel_rfl) (Eq.trans (by simp only [Ve];rfl) (ag h))
def MD {S:Type} (k:Nat):Rw S:=ae Iz tr fun s c0 κ=>aa k (AN k s c0) (Ll c0 κ)
def SV {S:Type} (k:Nat):Fx S:=fp 9 [(277,Mx k)] [] k Tryz.f227 1
theorem YZ {S:Type} (o:Obj) (ho:ad o) (k:Nat):Tl o 227 (MD k:Rw S):=af (SV k) ⟨YT o ho k,trivial⟩ Tryz.func227 (by kernel_rfl) fun s c0 κ x h=>Eq.trans (by kernel_rfl) (ag h)
def MJ {S:Type} (k:Nat):Rw S:=ae wD ajK fun c c0 κ=>aa k (uU k c c0) (ae7 c0 κ)
def S2 {S:Type} (k:Nat):Fx S:=fp 7 [(227,MD k)] [] k Tryz.f226 1
theorem Y5 {S:Type} (o:Obj) (ho:ad o) (k:Nat):Tl o 226 (MJ k:Rw S):=af (S2 k) ⟨YZ o ho k,trivial⟩ Tryz.func226 (by kernel_rfl) fun c c0 κ x h=>Eq.trans (by kernel_rfl) (ag h)
def gx {S:Type} (k:Nat):Rw S:=ae dI xn fun l κ=>aa k (eP k l) (aq κ)
def pb {S:Type} (k:Nat):Fx S:=fx 55 (fun _=>[]) (fun|53=>true|_=>false) [(224,Dd k),(226,MJ k)] [(4,⟨[(4,.none),(5,.none),(13,.none),(14,.none),(15,.none)],[(5,[some (200320,true)]),(12,[])]⟩,am 6 23),(15,⟨[(8,.none),(9,some (100009,true)),(34,.none),(35,.none),(36,.none)],[(5,[.none])]⟩,am 9 191)] k Tryz.f146 false [] 0
def CA (l:List Cl) (b12_0:List (Cl×Bool)) (b5_0:List Cl) (v15:Int):St UU:=⟨[(4,(.mp 12)),(5,(pt 5)),(13,(sC l)),(14,(.int .i64 (l.length:Int))),(15,(iI v15))],[(5,.cells [(.own 200320 0)]),(12,.map ET.C b12_0)],[(200320,⟨0,ET.C,b5_0⟩)],[(200320,.wr)]⟩
def JX (b5_0:List Cl) (v36:Int) (kept9:List Cl):St UU:=⟨[(8,(.func 226 [] [(pt 5)])),(9,(.own 100009 0)),(34,(sC b5_0)),(35,(.int .i64 (b5_0.length:Int))),(36,(iI v36))],[(5,.cells [(sC b5_0)])],[(100009,⟨0,ET.C,kept9⟩)],[(100009,.wr)]⟩
section
variable {S:Type} (k:Nat) (l:List Cl) (κ:Out UU→Option S)
theorem VK (b5_0): ∀n v36 kept9,(pb k).lp κ 15 [] n (JX b5_0 v36 kept9)=lx k (aq κ) b5_0 n v36 kept9:=aA (tA k (aq κ) b5_0) rfl (fun _=>rfl) fun r v36 kept9=>by kernel_rfl
theorem VJ: ∀n b12_0 b5_0 v15,(pb k).lp κ 4 [] n (CA l b12_0 b5_0 v15)=nC k (aq κ) l n b12_0 b5_0 v15:=dT (fun own=>pq k (aq κ) l (fun b5_0 v36 kept9=>lx k (aq κ) b5_0 k v36 kept9) own) rfl (fun _=>rfl) fun r b12_0 b5_0 v15=>Eq.trans (b:=pq k (aq κ) l (fun b5_0 v36 kept9=>(pb k).lp κ 15 [] k (JX b5_0 v36 kept9)) (fun b12_0 b5_0 v15=>r (CA l b12_0 b5_0 v15)) b12_0 b5_0 v15) (by kernel_rfl) (by simp only [VK])
end
theorem gY {S:Type} (o:Obj) (ho:ad o) (k:Nat):Tl o 146 (gx k:Rw S):=af (pb k) ⟨Hx o ho k,Y5 o ho k,trivial⟩ Tryz.func146 (by kernel_rfl) fun l κ x h=>Eq.trans (b:=Ec k (aq κ) (fun b12_0 b5_0 v15=>(pb k).lp κ 4 [] k (CA l b12_0 b5_0 v15)) l) (by kernel_rfl) (Eq.trans (by simp only [VJ];rfl) (ag h))
def MS {S:Type} (k:Nat):Rw S:=ae gb xn fun s1 s2 κ=>aa k (vH k s1 s2) (ar κ)
def zm {S:Type} (k:Nat):Fx S:=fp 26 [] [(4,aE [0,1,12,13] [],am 5 11)] k Tryz.f223 0
def Ka (s1 s2:List Cl) (v13:Int):St UU:=⟨[(0,(sC s1)),(1,(sC s2)),(12,(.int .i64 (s1.length:Int))),(13,(iI v13))],[],[],[]⟩
section
variable {S:Type} (k:Nat) (s1 s2:List Cl) (κ:Out UU→Option S)
theorem VU: ∀n v13,(zm k).lp κ 4 [] n (Ka s1 s2 v13)=og k (ar κ) s1 s2 n v13:=b9 (uC k (ar κ) s1 s2) rfl (fun _=>rfl) fun r v13=>by kernel_rfl
end
theorem Zc {S:Type} (o:Obj) (ho:ad o) (k:Nat):Tl o 223 (MS k:Rw S):=af (zm k) trivial Tryz.func223 (by kernel_rfl) fun s1 s2 κ x h=>Eq.trans (b:=Fg k (ar κ) (fun v13=>(zm k).lp κ 4 [] k (Ka s1 s2 v13)) s1 s2) (by kernel_rfl) (Eq.trans (by simp only [VU];rfl) (ag h))
def mg {S:Type} (k:Nat):Rw S:=ae dI xn fun f κ=>aa k (fX k f) (ar κ)
def Tf {S:Type} (k:Nat):Fx S:=fp 17 [(146,gx k),(223,MS k)] [] k Tryz.f140 0
theorem nn {S:Type} (o:Obj) (ho:ad o) (k:Nat):Tl o 140 (mg k:Rw S):=af (Tf k) ⟨gY o ho k,Zc o ho k,trivial⟩ Tryz.func140 (by kernel_rfl) fun f κ x h=>Eq.trans (by kernel_rfl) (ag h)
def sS {S:Type} (k:Nat):Rw S:=ae d6 xn fun i κ=>aa k (lf k i) (ar κ)
def Tn {S:Type} (k:Nat):Fx S:=fp 9 [] [] k Tryz.f232 0
theorem vX {S:Type} (o:Obj) (ho:ad o) (k:Nat):Tl o 232 (sS k:Rw S):=af (Tn k) trivial Tryz.func232 (by kernel_rfl) fun i κ x h=>Eq.trans (by kernel_rfl) (ag h)
def xQ {S:Type} (k:Nat):Rw S:=ae jV xn fun s i κ=>aa k (iF k s i) (bG κ)
def Tq {S:Type} (k:Nat):Fx S:=fp 16 [(232,sS k)] [] k Tryz.f233 0
theorem Ba {S:Type} (o:Obj) (ho:ad o) (k:Nat):Tl o 233 (xQ k:Rw S):=af (Tq k) ⟨vX o ho k,trivial⟩ Tryz.func233 (by kernel_rfl) fun s i κ x h=>Eq.trans (by kernel_rfl) (ag h)
def xR {S:Type} (k:Nat):Rw S:=ae dI xn fun f κ=>aa k (mP k f) (bG κ)
def zw {S:Type} (k:Nat):Fx S:=fp 22 [(233,xQ k)] [(3,aE [3,6,7,8] [],am 5 11)] k Tryz.f150 0
def Kg (f:List Cl) (s3 v8:Int):St UU:=⟨[(3,(iU s3)),(6,(sC f)),(7,(.int .i64 (f.length:Int))),(8,(iI v8))],[],[],[]⟩
section
variable {S:Type} (k:Nat) (f:List Cl) (κ:Out UU→Option S)
theorem V5: ∀n s3 v8,(zw k).lp κ 3 [] n (Kg f s3 v8)=nI k (bG κ) f n s3 v8:=aA (tN k (bG κ) f) rfl (fun _=>rfl) fun r s3 v8=>by kernel_rfl
end
theorem Bb {S:Type} (o:Obj) (ho:ad o) (k:Nat):Tl o 150 (xR k:Rw S):=af (zw k) ⟨Ba o ho k,trivial⟩ Tryz.func150 (by kernel_rfl) fun f κ x h=>Eq.trans (b:=Ew k (bG κ) (fun s3 v8=>(zw k).lp κ 3 [] k (Kg f s3 v8)) f) (by kernel_rfl) (Eq.trans (by simp only [V5];rfl) (ag h))
def M9 {S:Type} (k:Nat):Rw S:=ae wE xn fun f dims κ=>aa k (jM k f dims) (ar κ)
def Tr {S:Type} (k:Nat):Fx S:=fp 15 [(150,xR k)] [] k Tryz.f204 0
theorem Zu {S:Type} (o:Obj) (ho:ad o) (k:Nat):Tl o 204 (M9 k:Rw S):=af (Tr k) ⟨Bb o ho k,trivial⟩ Tryz.func204 (by kernel_rfl) fun f dims κ x h=>Eq.trans (by kernel_rfl) (ag h)
def Dy {S:Type} (k:Nat):Rw S:=ae lw xn fun c κ=>aa k (qf k c) (ar κ)
def Ts {S:Type} (k:Nat):Fx S:=fp 9 [] [] k Tryz.f269 0
theorem HK {S:Type} (o:Obj) (ho:ad o) (k:Nat):Tl o 269 (Dy k:Rw S):=af (Ts k) trivial Tryz.func269 (by kernel_rfl) fun c κ x h=>Eq.trans (by kernel_rfl) (ag h)
def M_ {S:Type} (k:Nat):Rw S:=ae IB xn fun s κ=>aa k (AQ k s) (ay κ)
def zx {S:Type} (k:Nat):Fx S:=fp 19 [(269,Dy k)] [(2,aE [0,1,7,8] [],am 4 5)] k Tryz.f277 0
def Kh (s:List Cl) (v8:Int):St UU:=⟨[(0,(sC s)),(1,(.func 269 [] [])),(7,(.int .i64 (s.length:Int))),(8,(iI v8))],[],[],[]⟩
section
variable {S:Type} (k:Nat) (s:List Cl) (κ:Out UU→Option S)
theorem V6: ∀n v8,(zx k).lp κ 2 [] n (Kh s v8)=oi k (ay κ) s n v8:=b9 (uE k (ay κ) s) rfl (fun _=>rfl) fun r v8=>by kernel_rfl
end
theorem Zv {S:Type} (o:Obj) (ho:ad o) (k:Nat):Tl o 277 (M_ k:Rw S):=af (zx k) ⟨HK o ho k,trivial⟩ Tryz.func277 (by kernel_rfl) fun s κ x h=>Eq.trans (b:=Fi k (ay κ) (fun v8=>(zx k).lp κ 2 [] k (Kh s v8)) s) (by kernel_rfl) (Eq.trans (by simp only [V6];rfl) (ag h))
def Na {S:Type} (k:Nat):Rw S:=ae IB xn fun s κ=>aa k (AO k s) (ar κ)
def Tu {S:Type} (k:Nat):Fx S:=fp 9 [(277,M_ k)] [] k Tryz.f227 0
theorem Zw {S:Type} (o:Obj) (ho:ad o) (k:Nat):Tl o 227 (Na k:Rw S):=af (Tu k) ⟨Zv o ho k,trivial⟩ Tryz.func227 (by kernel_rfl) fun s κ x h=>Eq.trans (by kernel_rfl) (ag h)
def oG {S:Type} (k:Nat):Rw S:=ae dI xn fun f κ=>aa k (iA k f) (ar κ)
def Tv {S:Type} (k:Nat):Fx S:=fp 10 [(140,mg k),(227,Na k)] [] k Tryz.f205 0
theorem qX {S:Type} (o:Obj) (ho:ad o) (k:Nat):Tl o 205 (oG k:Rw S):=af (Tv k) ⟨nn o ho k,Zw o ho k,trivial⟩ Tryz.func205 (by kernel_rfl) fun f κ x h=>Eq.trans (by kernel_rfl) (ag h)
def Nb {S:Type} (k:Nat):Rw S:=ae nA xn fun t vars dims κ=>aa k (qQ k t vars dims) (ar κ)
def pf {S:Type} (k:Nat):Fx S:=fp 138 [(140,mg k),(201,Lw k),(202,LA k),(203,LK k),(204,M9 k),(205,oG k)] [(1000003,aE [1,2,3] [(3,6)],am 2 3),(15,aE [2,3,107,108,109] [(3,6)],am 6 23)] k Tryz.f115 0
def Ki (t:Tm) (vars dims:Int):St UU:=⟨[(1,(iI vars)),(2,(iI dims)),(3,(pt 3))],[(3,bT t)],[],[]⟩
def Kj (t:Tm) (dims:Int) (v109:Int):St UU:=⟨[(2,(iI dims)),(3,(pt 3)),(107,(sB t.sys)),(108,(.int .i64 (t.sys.length:Int))),(109,(iI v109))],[(3,bT t)],[],[]⟩
section
variable {S:Type} (k:Nat) (t:Tm) (vars dims:Int) (κ:Out UU→Option S)
theorem V8: ∀n v109,(pf k).lp κ 15 [] n (Kj t dims v109)=jh k (ar κ) t dims n v109:=b9 (uI k (ar κ) t dims) rfl (fun _=>rfl) fun r v109=>by kernel_rfl
theorem V7: ∀n,(pf k).jn κ 1000003 [] n (Ki t vars dims)=wT k (ar κ) t vars dims n:=iW (p9 k (ar κ) t vars dims (fun v109=>jh k (ar κ) t dims k v109)) rfl (fun _=>rfl) (Eq.trans (b:=p9 k (ar κ) t vars dims (fun v109=>(pf k).lp κ 15 [] k (Kj t dims v109))) (by kernel_rfl) (by simp only [V8]))
end
theorem Zx {S:Type} (o:Obj) (ho:ad o) (k:Nat):Tl o 115 (Nb k:Rw S):=af (pf k) ⟨nn o ho k,XT o ho k,XX o ho k,X6 o ho k,Zu o ho k,qX o ho k,trivial⟩ Tryz.func115 (by kernel_rfl) fun t vars dims κ x h=>Eq.trans (b:=Fp k (ar κ) ((pf k).jn κ 1000003 [] k (Ki t vars dims)) t vars dims) (by kernel_rfl) (Eq.trans (by simp only [V7];rfl) (ag h))
def sV {S:Type} (hd:cV S):Rw S:=ae IC xn fun t vars dims bound κ=>hd t vars dims bound (ar κ)
def Nc {S:Type} (hd:cV S) (k:Nat):Rw S:=ae abk Rm fun a_k v d c0 c1 c2 κ=>aa k (qP hd k a_k v d c0 c1 c2) (e9 c0 c1 c2 κ)
def Tx {S:Type} (hd:cV S) (k:Nat):Fx S:=fp 21 [(51,sV hd)] [] k Tryz.f117 3
theorem Zy {S:Type} (o:Obj) (ho:ad o) (hd:cV S) (Hd:Tl o 51 (sV hd)) (k:Nat):Tl o 117 (Nc hd k:Rw S):=af (Tx hd k) ⟨Hd,trivial⟩ Tryz.func117 (by kernel_rfl) fun a_k v d c0 c1 c2 κ x h=>Eq.trans (by kernel_rfl) (ag h)
def Nd {S:Type} (hd:cV S) (k:Nat):Rw S:=ae abl Rm fun t c0 c1 c2 κ=>aa k (vJ hd k t c0 c1 c2) (e9 c0 c1 c2 κ)
def kR {S:Type} (hd:cV S) (k:Nat):Fx S:=fp 60 [(49,hU k),(117,Nc hd k)] [(2,aE [1,2,15,16,17] [(2,6),(1000000,1),(1000001,1),(1000002,1)],am 4 5),(12,aE [1,9,40,41,42] [(1000000,1),(1000001,1),(1000002,1)],am 7 47),(15,aE [1,9,40,41,42,47,48,49] [(1000000,1),(1000001,1),(1000002,1)],am 15 13103)] k Tryz.f116 3
def CC (c0 c1:Int) (c2:Bool) (t:Tm) (v17:Int):St UU:=⟨[(1,(.func 117 [] [(pt 1000000),(pt 1000001),(pt 1000002)])),(2,(pt 2)),(15,(sT t.kids)),(16,(.int .i64 (t.kids.length:Int))),(17,(iI v17))],[(2,bT t),(1000000,bI c0),(1000001,bI c1),(1000002,.cells [(.bool c2)])],[],[]⟩
def sf (c0 c1:Int) (c2:Bool) (t:Tm) (v42 more9:Int):St UU:=⟨[(1,(.func 117 [] [(pt 1000000),(pt 1000001),(pt 1000002)])),(9,(iI more9)),(40,(sB t.sys)),(41,(.int .i64 (t.sys.length:Int))),(42,(iI v42))],[(1000000,bI c0),(1000001,bI c1),(1000002,.cells [(.bool c2)])],[],[]⟩
def Kk (c0 c1:Int) (c2:Bool) (t:Tm) (v42:Int) (x4:(Br Tm)) (more9:Int) (v49:Int):St UU:=⟨[(1,(.func 117 [] [(pt 1000000),(pt 1000001),(pt 1000002)])),(9,(iI more9)),(40,(sB t.sys)),(41,(.int .i64 (t.sys.length:Int))),(42,(iI v42)),(47,(sT x4.kids)),(48,(.int .i64 (x4.kids.length:Int))),(49,(iI v49))],[(1000000,bI c0),(1000001,bI c1),(1000002,.cells [(.bool c2)])],[],[]⟩
section
variable {S:Type} (hd:cV S) (k:Nat) (t:Tm) (c0 c1:Int) (c2:Bool) (κ:Out UU→Option S)
theorem Wa (v42 x4 more9 κ1): ∀n v49,(kR hd k).lp κ 15 [κ1] n (Kk c0 c1 c2 t v42 x4 more9 v49)=kg hd k (e9 c0 c1 c2 κ) (fun v42 more9=>κ1 (sf c0 c1 c2 t v42 more9)) c0 c1 c2 t v42 x4 more9 n v49:=b9 (uG hd k (e9 c0 c1 c2 κ) c0 c1 c2 t v42 x4 more9 (fun v42 more9=>κ1 (sf c0 c1 c2 t v42 more9))) rfl (fun _=>rfl) fun r v49=>by kernel_rfl
theorem V_: ∀n v42 more9,(kR hd k).lp κ 12 [] n (sf c0 c1 c2 t v42 more9)=gj hd k (e9 c0 c1 c2 κ) c0 c1 c2 t n v42 more9:=aA (fun own=>p5 hd k (e9 c0 c1 c2 κ) c0 c1 c2 t (fun v42 x4 more9 v49=>kg hd k (e9 c0 c1 c2 κ) own c0 c1 c2 t v42 x4 more9 k v49) own) rfl (fun _=>rfl) fun r v42 more9=>Eq.trans (b:=p5 hd k (e9 c0 c1 c2 κ) c0 c1 c2 t (fun v42 x4 more9 v49=>(kR hd k).lp κ 15 [r] k (Kk c0 c1 c2 t v42 x4 more9 v49)) (fun v42 more9=>r (sf c0 c1 c2 t v42 more9)) v42 more9) (by kernel_rfl) (by simp only [Wa])
theorem V9: ∀n v17,(kR hd k).lp κ 2 [] n (CC c0 c1 c2 t v17)=lS hd k (e9 c0 c1 c2 κ) c0 c1 c2 t n v17:=b9 (fun own=>p4 hd k (e9 c0 c1 c2 κ) c0 c1 c2 t (fun v42 more9=>gj hd k (e9 c0 c1 c2 κ) c0 c1 c2 t k v42 more9) own) rfl (fun _=>rfl) fun r v17=>Eq.trans (b:=p4 hd k (e9 c0 c1 c2 κ) c0 c1 c2 t (fun v42 more9=>(kR hd k).lp κ 12 [] k (sf c0 c1 c2 t v42 more9)) (fun v17=>r (CC c0 c1 c2 t v17)) v17) (by kernel_rfl) (by simp only [V_])
end
theorem Zz {S:Type} (o:Obj) (ho:ad o) (hd:cV S) (Hd:Tl o 51 (sV hd)) (k:Nat):Tl o 116 (Nd hd k:Rw S):=af (kR hd k) ⟨iL o ho k,Zy o ho hd Hd k,trivial⟩ Tryz.func116 (by kernel_rfl) fun t c0 c1 c2 κ x h=>Eq.trans (b:=Fk hd k (e9 c0 c1 c2 κ) (fun v17=>(kR hd k).lp κ 2 [] k (CC c0 c1 c2 t v17)) t c0 c1 c2) (by kernel_rfl) (Eq.trans (by simp only [V9];rfl) (ag h))
def Tw {S:Type} (hd:cV S) (k:Nat):Fx S:=fp 24 [(115,Nb k),(116,Nd hd k)] [] k Tryz.f51 0
theorem Im {S:Type} (o:Obj) (ho:ad o): ∀k:Nat,Tl o 51 (sV (fz k:cV S))
 |0=>dx fun t vars dims bound κ x h=>by cases h
 |k+1=>af (Tw (fz k) k) ⟨Zx o ho k,Zz o ho (fz k) (Im o ho k) k,trivial⟩ Tryz.func51 (by kernel_rfl) fun t vars dims bound κ x h=>Eq.trans (by kernel_rfl) h
def fI {S:Type} (k:Nat):Rw S:=ae c6 xn fun t κ=>aa k (d3 k t) (ay κ)
def Tz {S:Type} (k:Nat):Fx S:=fp 12 [(50,Lo k),(51,sV (fz k))] [] k Tryz.f40 0
theorem f7 {S:Type} (o:Obj) (ho:ad o) (k:Nat):Tl o 40 (fI k:Rw S):=af (Tz k) ⟨XL o ho k,Im o ho k,trivial⟩ Tryz.func40 (by kernel_rfl) fun t κ x h=>Eq.trans (by kernel_rfl) (ag h)
def jo {S:Type} (hd:d1 S):Rw S:=ae c6 xn fun t κ=>hd t (a6 κ)
def Nf {S:Type} (hd:d1 S) (k:Nat):Rw S:=ae ID xn fun l κ=>aa k (AU hd k l) (xh κ)
def zz {S:Type} (hd:d1 S) (k:Nat):Fx S:=fp 19 [(41,jo hd)] [(3,⟨[(3,some (100003,true)),(6,.none),(7,.none),(8,.none)],[]⟩,am 5 11)] k Tryz.f92 0
def Km (l:List Tm) (out3:List Tm) (v8:Int):St UU:=⟨[(3,(.own 100003 0)),(6,(sT l)),(7,(.int .i64 (l.length:Int))),(8,(iI v8))],[],[(100003,⟨0,ET.T,out3⟩)],[(100003,.wr)]⟩
section
variable {S:Type} (hd:d1 S) (k:Nat) (l:List Tm) (κ:Out UU→Option S)
theorem Wc: ∀n out3 v8,(zz hd k).lp κ 3 [] n (Km l out3 v8)=B6 hd k (xh κ) l n out3 v8:=aA (F9 hd k (xh κ) l) rfl (fun _=>rfl) fun r out3 v8=>by kernel_rfl
end
theorem ZA {S:Type} (o:Obj) (ho:ad o) (hd:d1 S) (Hd:Tl o 41 (jo hd)) (k:Nat):Tl o 92 (Nf hd k:Rw S):=af (zz hd k) ⟨Hd,trivial⟩ Tryz.func92 (by kernel_rfl) fun l κ x h=>Eq.trans (b:=QM hd k (xh κ) (fun out3 v8=>(zz hd k).lp κ 3 [] k (Km l out3 v8)) l) (by kernel_rfl) (Eq.trans (by simp only [Wc];rfl) (ag h))
def zy {S:Type} (hd:d1 S) (k:Nat):Fx S:=fp 40 [(91,DQ),(92,Nf hd k)] [(3,⟨[(2,.none),(3,.none),(20,.none),(21,.none),(22,.none)],[(2,[.none,.none,.none,some (200131,true),some (200132,true),some (200133,true)]),(3,[.none,.none,.none,.none,.none,some (200197,true)])]⟩,am 5 11)] k Tryz.f41 0
def Kl (t:Tm) (r1:List Cl) (r2:List Tm) (b3_5:List (Br Tm)) (v22:Int):St UU:=⟨[(2,(pt 2)),(3,(pt 3)),(20,(sB t.sys)),(21,(.int .i64 (t.sys.length:Int))),(22,(iI v22))],[(2,.cells [(iI 0),(iI 0),(.str ByteArray.empty),(.own 200131 0),(.own 200132 0),(.own 200133 0)]),(3,.cells [(iI t.kind),(iI t.n),(.str t.name),(sC r1),(sT r2),(.own 200197 0)])],[(200197,⟨0,ET.B,b3_5⟩),(200133,⟨0,ET.B,([]:List (Br Tm))⟩),(200132,⟨0,ET.T,([]:List Tm)⟩),(200131,⟨0,ET.C,([]:List Cl)⟩)],[(200197,.wr),(200133,.wr),(200132,.wr),(200131,.wr)]⟩
section
variable {S:Type} (hd:d1 S) (k:Nat) (t:Tm) (κ:Out UU→Option S)
theorem Wb (r1 r2): ∀n b3_5 v22,(zy hd k).lp κ 3 [] n (Kl t r1 r2 b3_5 v22)=B5 hd k (a6 κ) t r1 r2 n b3_5 v22:=aA (F8 hd k (a6 κ) t r1 r2) rfl (fun _=>rfl) fun r b3_5 v22=>by kernel_rfl
end
theorem lv {S:Type} (o:Obj) (ho:ad o): ∀k:Nat,Tl o 41 (jo (c5 k:d1 S))
 |0=>dx fun t κ x h=>by cases h
 |k+1=>af (zy (c5 k) k) ⟨ai_ o ho,ZA o ho (c5 k) (lv o ho k) k,trivial⟩ Tryz.func41 (by kernel_rfl) fun t κ x h=>Eq.trans (b:=QG (c5 k) k (a6 κ) (fun r1 r2 b3_5 v22=>(zy (c5 k) k).lp κ 3 [] k (Kl t r1 r2 b3_5 v22)) t) (by kernel_rfl) (Eq.trans (by simp only [Wb];rfl) h)
def fb {S:Type} (k:Nat):Rw S:=ae IE bm fun t a_e c0 κ=>aa k (d2 k t a_e c0) (eD κ)
def TC {S:Type} (k:Nat):Fx S:=fp 23 [] [] k Tryz.f93 1
theorem fB {S:Type} (o:Obj) (ho:ad o) (k:Nat):Tl o 93 (fb k:Rw S):=af (TC k) trivial Tryz.func93 (by kernel_rfl) fun t a_e c0 κ x h=>Eq.trans (by kernel_rfl) (ag h)
def afL {S:Type} (k:Nat):Rw S:=ae rp bm fun c0 κ=>aa k (dA k c0) (dV c0 κ)
def fc {S:Type} (k:Nat):Rw S:=ae rp bm fun c0 κ=>aa k (dA k c0) (ar κ)
def TD {S:Type} (k:Nat):Fx S:=fp 8 [] [] k Tryz.f94 1
theorem ZC {S:Type} (o:Obj) (ho:ad o) (k:Nat):Tl o 94 (afL k:Rw S):=af (TD k) trivial Tryz.func94 (by kernel_rfl) fun c0 κ x h=>Eq.trans (by kernel_rfl) (ag h)
theorem fC {S:Type} (o:Obj) (ho:ad o) (k:Nat):Tl o 94 (fc k:Rw S):=QW (ZC o ho k) fun c0 κ x h=>Eq.trans (b:=aa k (dA k c0) (dV c0 (uQ _ κ))) (by kernel_rfl) (Eq.trans (congrArg (aa k (dA k c0)) (funext fun r=>if_pos rfl)) h)
def xS {S:Type} (k:Nat):Rw S:=ae iX bm fun t c0 κ=>aa k (fY k t c0) (ae8 κ)
def TE {S:Type} (k:Nat):Fx S:=fp 20 [(40,fI k),(41,jo (c5 k)),(93,fb k),(94,fc k)] [] k Tryz.f42 1
theorem Bc {S:Type} (o:Obj) (ho:ad o) (k:Nat):Tl o 42 (xS k:Rw S):=af (TE k) ⟨f7 o ho k,lv o ho k,fB o ho k,fC o ho k,trivial⟩ Tryz.func42 (by kernel_rfl) fun t c0 κ x h=>Eq.trans (by kernel_rfl) (ag h)
end
end Go.Proofs.YtgajalidbabccaaGreatDoor
namespace Go.Proofs.YtgajalidbabccaaGreatDoor
open Go PI
set_option linter.unusedVariables false
set_option maxRecDepth 100000
noncomputable section
def xU {S:Type} (k:Nat):Rw S:=ae IF xn fun l κ=>aa k (mS k l) (ay κ)
def zA {S:Type} (k:Nat):Fx S:=fp 15 [(140,mg k)] [(2,aE [5,6,7] [],am 4 5)] k Tryz.f141 0
def Ko (l:List (List Cl)) (v7:Int):St UU:=⟨[(5,(yp l .none)),(6,(.int .i64 (l.length:Int))),(7,(iI v7))],[],[],[]⟩
section
variable {S:Type} (k:Nat) (l:List (List Cl)) (κ:Out UU→Option S)
theorem Wd: ∀n v7,(zA k).lp κ 2 [] n (Ko l v7)=nO k (ay κ) l n v7:=b9 (tU k (ay κ) l) rfl (fun _=>rfl) fun r v7=>by kernel_rfl
end
theorem Bd {S:Type} (o:Obj) (ho:ad o) (k:Nat):Tl o 141 (xU k:Rw S):=af (zA k) ⟨nn o ho k,trivial⟩ Tryz.func141 (by kernel_rfl) fun l κ x h=>Eq.trans (b:=EE k (ay κ) (fun v7=>(zA k).lp κ 2 [] k (Ko l v7)) l) (by kernel_rfl) (Eq.trans (by simp only [Wd];rfl) (ag h))
def xV {S:Type} (k:Nat):Rw S:=ae cn xn fun κ=>aa k (mQ k) (ae9 κ)
def TF {S:Type} (k:Nat):Fx S:=fx 1 (fun _=>[]) (fun _=>false) [] [] k Tryz.f143 false [true] 0
theorem Be {S:Type} (o:Obj) (ho:ad o) (k:Nat):Tl o 143 (xV k:Rw S):=af (TF k) trivial Tryz.func143 (by kernel_rfl) fun κ x h=>Eq.trans (by kernel_rfl) (ag h)
def Dz {S:Type} (k:Nat):Rw S:=ae d6 xn fun i κ=>aa k (mV k i) (bG κ)
def TG {S:Type} (k:Nat):Fx S:=fp 9 [] [] k Tryz.f244 0
theorem HL {S:Type} (o:Obj) (ho:ad o) (k:Nat):Tl o 244 (Dz k:Rw S):=af (TG k) trivial Tryz.func244 (by kernel_rfl) fun i κ x h=>Eq.trans (by kernel_rfl) (ag h)
def Nh {S:Type} (k:Nat):Rw S:=ae IG xn fun s a_from a_by κ=>aa k (jF k s a_from a_by) (sF κ)
def TH {S:Type} (k:Nat):Fx S:=fp 46 [(244,Dz k)] [] k Tryz.f225 0
theorem ZD {S:Type} (o:Obj) (ho:ad o) (k:Nat):Tl o 225 (Nh k:Rw S):=af (TH k) ⟨HL o ho k,trivial⟩ Tryz.func225 (by kernel_rfl) fun s a_from a_by κ x h=>Eq.trans (by kernel_rfl) (ag h)
def Ni {S:Type} (k:Nat):Rw S:=ae IH xn fun c a_from a_by κ=>aa k (uW k c a_from a_by) (Lc κ)
def TI {S:Type} (k:Nat):Fx S:=fp 42 [(224,Dd k),(225,Nh k)] [] k Tryz.f145 0
theorem ZE {S:Type} (o:Obj) (ho:ad o) (k:Nat):Tl o 145 (Ni k:Rw S):=af (TI k) ⟨Hx o ho k,ZD o ho k,trivial⟩ Tryz.func145 (by kernel_rfl) fun c a_from a_by κ x h=>Eq.trans (by kernel_rfl) (ag h)
def Nj {S:Type} (k:Nat):Rw S:=ae abm yI fun a_have c c0 c1 κ=>aa k (Az k a_have c c0 c1) (ae_ c0 c1 κ)
def TJ {S:Type} (k:Nat):Fx S:=fx 22 (fun _=>[]) (fun _=>false) [(145,Ni k)] [] k Tryz.f144 false [true,false] 2
theorem ZF {S:Type} (o:Obj) (ho:ad o) (k:Nat):Tl o 144 (Nj k:Rw S):=af (TJ k) ⟨ZE o ho k,trivial⟩ Tryz.func144 (by kernel_rfl) fun a_have c c0 c1 κ x h=>Eq.trans (by kernel_rfl) (ag h)
def Nk {S:Type} (k:Nat):Rw S:=ae abn yI fun l a_from c0 c1 κ=>aa k (vf k l a_from c0 c1) (xj c0 c1 κ)
def zB {S:Type} (k:Nat):Fx S:=fx 33 (fun|23=>[true,false]|_=>[]) (fun _=>false) [(144,Nj k)] [(2,⟨[(1,some (100001,true)),(2,.none),(13,.none),(14,.none),(15,.none)],[(1000000,[.none]),(1000001,[.none])]⟩,am 4 5)] k Tryz.f142 false [] 2
def Kp (c0 c1:Int) (l:List Cl) (v1:List Cl) (v15:Int):St UU:=⟨[(1,(.own 100001 0)),(2,(.func 144 [] [(pt 1000000),(pt 1000001)])),(13,(sC l)),(14,(.int .i64 (l.length:Int))),(15,(iI v15))],[(1000000,bI c0),(1000001,bI c1)],[(100001,⟨0,ET.C,v1⟩)],[(100001,.wr)]⟩
section
variable {S:Type} (k:Nat) (l a_from:List Cl) (c0 c1:Int) (κ:Out UU→Option S)
theorem We: ∀n v1 v15,(zB k).lp κ 2 [] n (Kp c0 c1 l v1 v15)=nM k (xj c0 c1 κ) c0 c1 l n v1 v15:=aA (tQ k (xj c0 c1 κ) c0 c1 l) rfl (fun _=>rfl) fun r v1 v15=>by kernel_rfl
end
theorem ZG {S:Type} (o:Obj) (ho:ad o) (k:Nat):Tl o 142 (Nk k:Rw S):=af (zB k) ⟨ZF o ho k,trivial⟩ Tryz.func142 (by kernel_rfl) fun l a_from c0 c1 κ x h=>Eq.trans (b:=EB k (xj c0 c1 κ) (fun v1 v15=>(zB k).lp κ 2 [] k (Kp c0 c1 l v1 v15)) l a_from c0 c1) (by kernel_rfl) (Eq.trans (by simp only [We];rfl) (ag h))
def mh {S:Type} (k:Nat):Rw S:=ae BI xn fun f a_from a_by κ=>aa k (iC k f a_from a_by) (aq κ)
def TK {S:Type} (k:Nat):Fx S:=fx 31 (fun|21=>[false,true,false]|_=>[]) (fun _=>false) [(141,xU k),(142,Nk k),(143,xV k),(146,gx k)] [] k Tryz.f75 false [] 0
theorem np {S:Type} (o:Obj) (ho:ad o) (k:Nat):Tl o 75 (mh k:Rw S):=af (TK k) ⟨Bd o ho k,ZG o ho k,Be o ho k,gY o ho k,trivial⟩ Tryz.func75 (by kernel_rfl) fun f a_from a_by κ x h=>Eq.trans (by kernel_rfl) (ag h)
def Nm {S:Type} (k:Nat):Rw S:=ae abo xn fun l_0 l_1 f a_from κ=>aa k (qA k l_0 l_1 f a_from) (afa κ)
def TL {S:Type} (k:Nat):Fx S:=fp 31 [(75,mh k)] [] k Tryz.f165 0
theorem ZI {S:Type} (o:Obj) (ho:ad o) (k:Nat):Tl o 165 (Nm k:Rw S):=af (TL k) ⟨np o ho k,trivial⟩ Tryz.func165 (by kernel_rfl) fun l_0 l_1 f a_from κ x h=>Eq.trans (by kernel_rfl) (ag h)
def sW {S:Type} (hd:eK S):Rw S:=ae abp xn fun l_0 l_1 t v d κ=>hd l_0 l_1 t v d (bV κ)
def it {S:Type} (hd:eK S) (k:Nat):Fx S:=fp 128 [(49,hU k),(85,sW hd),(165,Nm k)] [(1000006,⟨[(2,.none),(3,.none),(4,.none),(5,.none),(8,.none),(9,.none)],[(4,[.none,.none]),(5,[.none,.none,.none,.none,.none,.none]),(8,[.none,.none,.none,some (200515,true),some (200516,true),some (200517,true)]),(9,[.none,.none,.none,.none,some (200580,true),some (200581,true)])]⟩,am 3 7),(7,⟨[(2,.none),(3,.none),(4,.none),(5,.none),(8,.none),(9,.none),(55,.none),(56,.none),(57,.none)],[(4,[.none,.none]),(5,[.none,.none,.none,.none,.none,.none]),(8,[.none,.none,.none,some (200515,true),some (200516,true),some (200517,true)]),(9,[.none,.none,.none,.none,some (200580,true),some (200581,true)])]⟩,am 6 23),(16,⟨[(2,.none),(3,.none),(4,.none),(8,.none),(9,.none),(14,.none),(88,.none),(89,.none),(90,.none)],[(4,[.none,.none]),(8,[.none,.none,.none,some (200515,true),some (200516,true),some (200517,true)]),(9,[.none,.none,.none,.none,some (200580,true),some (200581,true)])]⟩,am 9 191),(20,⟨[(2,.none),(3,.none),(4,.none),(8,.none),(9,.none),(14,.none),(17,.none),(88,.none),(89,.none),(90,.none),(101,.none),(102,.none),(103,.none)],[(4,[.none,.none]),(8,[.none,.none,.none,some (200515,true),some (200516,true),some (200517,true)]),(9,[.none,.none,.none,.none,some (200580,true),some (200581,true)]),(17,[.none,some (201089,true)])]⟩,am 19 183487)] k Tryz.f85 0
def Kq (l_0 l_1:Int) (t:Tm) (r2:List Cl) (v d:Int) (b9_1:Int):St UU:=⟨[(2,(iI v)),(3,(iI d)),(4,(pt 4)),(5,(pt 5)),(8,(pt 8)),(9,(pt 9))],[(4,.cells [(iI l_0),(iI l_1)]),(5,bT t),(8,.cells [(iI 0),(iI 0),(.str ByteArray.empty),(.own 200515 0),(.own 200516 0),(.own 200517 0)]),(9,.cells [(iI t.kind),(iI b9_1),(.str t.name),(sC r2),(.own 200580 0),(.own 200581 0)])],[(200581,⟨0,ET.B,([]:List (Br Tm))⟩),(200580,⟨0,ET.T,([]:List Tm)⟩),(200517,⟨0,ET.B,([]:List (Br Tm))⟩),(200516,⟨0,ET.T,([]:List Tm)⟩),(200515,⟨0,ET.C,([]:List Cl)⟩)],[(200581,.wr),(200580,.wr),(200517,.wr),(200516,.wr),(200515,.wr)]⟩
def CD (l_0 l_1:Int) (t:Tm) (b9_1:Int) (r2:List Cl) (v d:Int) (b9_4:List Tm) (v57:Int):St UU:=⟨[(2,(iI v)),(3,(iI d)),(4,(pt 4)),(5,(pt 5)),(8,(pt 8)),(9,(pt 9)),(55,(sT t.kids)),(56,(.int .i64 (t.kids.length:Int))),(57,(iI v57))],[(4,.cells [(iI l_0),(iI l_1)]),(5,bT t),(8,.cells [(iI 0),(iI 0),(.str ByteArray.empty),(.own 200515 0),(.own 200516 0),(.own 200517 0)]),(9,.cells [(iI t.kind),(iI b9_1),(.str t.name),(sC r2),(.own 200580 0),(.own 200581 0)])],[(200581,⟨0,ET.B,([]:List (Br Tm))⟩),(200580,⟨0,ET.T,b9_4⟩),(200517,⟨0,ET.B,([]:List (Br Tm))⟩),(200516,⟨0,ET.T,([]:List Tm)⟩),(200515,⟨0,ET.C,([]:List Cl)⟩)],[(200581,.wr),(200580,.wr),(200517,.wr),(200516,.wr),(200515,.wr)]⟩
def sg (l_0 l_1:Int) (t:Tm) (b9_1:Int) (r2:List Cl) (b9_4:List Tm) (v d:Int) (b9_5:List (Br Tm)) (more14 v90:Int):St UU:=⟨[(2,(iI v)),(3,(iI d)),(4,(pt 4)),(8,(pt 8)),(9,(pt 9)),(14,(iI more14)),(88,(sB t.sys)),(89,(.int .i64 (t.sys.length:Int))),(90,(iI v90))],[(4,.cells [(iI l_0),(iI l_1)]),(8,.cells [(iI 0),(iI 0),(.str ByteArray.empty),(.own 200515 0),(.own 200516 0),(.own 200517 0)]),(9,.cells [(iI t.kind),(iI b9_1),(.str t.name),(sC r2),(.own 200580 0),(.own 200581 0)])],[(200581,⟨0,ET.B,b9_5⟩),(200580,⟨0,ET.T,b9_4⟩),(200517,⟨0,ET.B,([]:List (Br Tm))⟩),(200516,⟨0,ET.T,([]:List Tm)⟩),(200515,⟨0,ET.C,([]:List Cl)⟩)],[(200581,.wr),(200580,.wr),(200517,.wr),(200516,.wr),(200515,.wr)]⟩
def Kr (r12:List Cl) (l_0 l_1:Int) (t:Tm) (b9_1:Int) (r2:List Cl) (b9_4:List Tm) (b9_5:List (Br Tm)) (x10:(Br Tm)) (more14 v d v90:Int) (b17_1:List Tm) (v103:Int):St UU:=⟨[(2,(iI v)),(3,(iI d)),(4,(pt 4)),(8,(pt 8)),(9,(pt 9)),(14,(iI more14)),(17,(pt 17)),(88,(sB t.sys)),(89,(.int .i64 (t.sys.length:Int))),(90,(iI v90)),(101,(sT x10.kids)),(102,(.int .i64 (x10.kids.length:Int))),(103,(iI v103))],[(4,.cells [(iI l_0),(iI l_1)]),(8,.cells [(iI 0),(iI 0),(.str ByteArray.empty),(.own 200515 0),(.own 200516 0),(.own 200517 0)]),(9,.cells [(iI t.kind),(iI b9_1),(.str t.name),(sC r2),(.own 200580 0),(.own 200581 0)]),(17,.cells [(sC r12),(.own 201089 0)])],[(201089,⟨0,ET.T,b17_1⟩),(200581,⟨0,ET.B,b9_5⟩),(200580,⟨0,ET.T,b9_4⟩),(200517,⟨0,ET.B,([]:List (Br Tm))⟩),(200516,⟨0,ET.T,([]:List Tm)⟩),(200515,⟨0,ET.C,([]:List Cl)⟩)],[(201089,.wr),(200581,.wr),(200580,.wr),(200517,.wr),(200516,.wr),(200515,.wr)]⟩
section
variable {S:Type} (hd:eK S) (k:Nat) (l_0 l_1:Int) (t:Tm) (v d:Int) (κ:Out UU→Option S)
theorem Wi (r12 b9_1 r2 b9_4 b9_5 x10 more14 v90 κ2): ∀n b17_1 v103,(it hd k).lp κ 20 [κ2] n (Kr r12 l_0 l_1 t b9_1 r2 b9_4 b9_5 x10 more14 v d v90 b17_1 v103)=j6 hd k (bV κ) (fun b9_5 more14 v90=>κ2 (sg l_0 l_1 t b9_1 r2 b9_4 v d b9_5 more14 v90)) r12 l_0 l_1 t b9_1 r2 b9_4 b9_5 x10 more14 v d v90 n b17_1 v103:=aA (tW hd k (bV κ) r12 l_0 l_1 t b9_1 r2 b9_4 b9_5 x10 more14 v d v90 (fun b9_5 more14 v90=>κ2 (sg l_0 l_1 t b9_1 r2 b9_4 v d b9_5 more14 v90))) rfl (fun _=>rfl) fun r b17_1 v103=>by kernel_rfl
theorem Wh (b9_1 r2 b9_4): ∀n b9_5 more14 v90,(it hd k).lp κ 16 [] n (sg l_0 l_1 t b9_1 r2 b9_4 v d b9_5 more14 v90)=gc hd k (bV κ) l_0 l_1 t b9_1 r2 b9_4 v d n b9_5 more14 v90:=dT (fun own=>py hd k (bV κ) l_0 l_1 t b9_1 r2 b9_4 v d (fun r12 b9_5 x10 more14 v90 b17_1 v103=>j6 hd k (bV κ) own r12 l_0 l_1 t b9_1 r2 b9_4 b9_5 x10 more14 v d v90 k b17_1 v103) own) rfl (fun _=>rfl) fun r b9_5 more14 v90=>Eq.trans (b:=py hd k (bV κ) l_0 l_1 t b9_1 r2 b9_4 v d (fun r12 b9_5 x10 more14 v90 b17_1 v103=>(it hd k).lp κ 20 [r] k (Kr r12 l_0 l_1 t b9_1 r2 b9_4 b9_5 x10 more14 v d v90 b17_1 v103)) (fun b9_5 more14 v90=>r (sg l_0 l_1 t b9_1 r2 b9_4 v d b9_5 more14 v90)) b9_5 more14 v90) (by kernel_rfl) (by simp only [Wi])
theorem Wg (b9_1 r2): ∀n b9_4 v57,(it hd k).lp κ 7 [] n (CD l_0 l_1 t b9_1 r2 v d b9_4 v57)=iZ hd k (bV κ) l_0 l_1 t b9_1 r2 v d n b9_4 v57:=aA (fun own=>px hd k (bV κ) l_0 l_1 t b9_1 r2 v d (fun b9_4 b9_5 more14 v90=>gc hd k (bV κ) l_0 l_1 t b9_1 r2 b9_4 v d k b9_5 more14 v90) own) rfl (fun _=>rfl) fun r b9_4 v57=>Eq.trans (b:=px hd k (bV κ) l_0 l_1 t b9_1 r2 v d (fun b9_4 b9_5 more14 v90=>(it hd k).lp κ 16 [] k (sg l_0 l_1 t b9_1 r2 b9_4 v d b9_5 more14 v90)) (fun b9_4 v57=>r (CD l_0 l_1 t b9_1 r2 v d b9_4 v57)) b9_4 v57) (by kernel_rfl) (by simp only [Wh])
theorem Wf (r2): ∀n b9_1,(it hd k).jn κ 1000006 [] n (Kq l_0 l_1 t r2 v d b9_1)=rq hd k (bV κ) l_0 l_1 t r2 v d n b9_1:=BD (zO hd k (bV κ) l_0 l_1 t r2 v d (fun b9_1 b9_4 v57=>iZ hd k (bV κ) l_0 l_1 t b9_1 r2 v d k b9_4 v57)) rfl (fun _=>rfl) (fun b9_1=>Eq.trans (b:=zO hd k (bV κ) l_0 l_1 t r2 v d (fun b9_1 b9_4 v57=>(it hd k).lp κ 7 [] k (CD l_0 l_1 t b9_1 r2 v d b9_4 v57)) b9_1) (by kernel_rfl) (by simp only [Wg]))
end
theorem wx {S:Type} (o:Obj) (ho:ad o): ∀k:Nat,Tl o 85 (sW (cK k:eK S))
 |0=>dx fun l_0 l_1 t v d κ x h=>by cases h
 |k+1=>af (it (cK k) k) ⟨iL o ho k,wx o ho k,ZI o ho k,trivial⟩ Tryz.func85 (by kernel_rfl) fun l_0 l_1 t v d κ x h=>Eq.trans (b:=EG (cK k) k (bV κ) (fun r2 b9_1=>(it (cK k) k).jn κ 1000006 [] k (Kq l_0 l_1 t r2 v d b9_1)) l_0 l_1 t v d) (by kernel_rfl) (Eq.trans (by simp only [Wf];rfl) h)
def Nn {S:Type} (k:Nat):Rw S:=ae BJ Rn fun c0 c1 c2 κ=>aa k (GW k c0 c1 c2) (afb c0 c1 c2 κ)
def TM {S:Type} (k:Nat):Fx S:=fp 11 [(85,sW (cK k))] [] k Tryz.f206 3
theorem ZJ {S:Type} (o:Obj) (ho:ad o) (k:Nat):Tl o 206 (Nn k:Rw S):=af (TM k) ⟨wx o ho k,trivial⟩ Tryz.func206 (by kernel_rfl) fun c0 c1 c2 κ x h=>Eq.trans (by kernel_rfl) (ag h)
def Np {S:Type} (k:Nat):Rw S:=ae abq Rn fun t numbers c0 c1 c2 κ=>aa k (G2 k t numbers c0 c1 c2) (xk c0 c1 c2 κ)
def zC {S:Type} (k:Nat):Fx S:=⟨⟨30,(fun _=>[]),(fun _=>false),.none,fun|6=>true|7=>true|_=>false⟩,[(40,fI k),(206,Nn k)],[(5,⟨[(2,.none),(6,.none),(7,.none),(17,.none),(18,.none),(19,.none)],[(1000000,[.none]),(1000001,[.none]),(1000002,[.none,.none,.none,.none,.none,.none]),(5000006,[.none,.none,.none,some (320200387,true),some (320200388,true),some (320200389,true)]),(5000007,[.none])]⟩,am 5 11)],k,Tryz.f83,false,[],3,some (mJ 16 164 Tryz.f164 k)⟩
def Ks (c0 c1:Int) (c2:Tm) (numbers:List Int) (v19:Int):St UU:=⟨[(2,(.func 206 [] [(pt 1000000),(pt 1000001),(pt 1000002)])),(6,(pt 5000006)),(7,(pt 5000007)),(17,(jt numbers .none)),(18,(.int .i64 (numbers.length:Int))),(19,(iI v19))],[(1000000,bI c0),(1000001,bI c1),(1000002,bT c2),(5000006,.cells [(iI 0),(iI 0),(.str ByteArray.empty),(.own 320200387 0),(.own 320200388 0),(.own 320200389 0)]),(5000007,bI 0)],[(320200389,⟨0,ET.B,([]:List (Br Tm))⟩),(320200388,⟨0,ET.T,([]:List Tm)⟩),(320200387,⟨0,ET.C,([]:List Cl)⟩)],[(320200389,.wr),(320200388,.wr),(320200387,.wr)]⟩
section
variable {S:Type} (k:Nat) (t:Tm) (numbers:List Int) (c0 c1:Int) (c2:Tm) (κ:Out UU→Option S)
theorem Wj: ∀n v19,(zC k).lp κ 5 [] n (Ks c0 c1 c2 numbers v19)=B2 k (xk c0 c1 c2 κ) c0 c1 c2 numbers n v19:=b9 (F5 k (xk c0 c1 c2 κ) c0 c1 c2 numbers) rfl (fun _=>rfl) fun r v19=>by kernel_rfl
end
theorem ZK {S:Type} (o:Obj) (ho:ad o) (k:Nat):Tl o 83 (Np k:Rw S):=yA (zC k) rfl (uL o Tryz.func164 (by kernel_rfl)) ⟨f7 o ho k,ZJ o ho k,trivial⟩ Tryz.func83 (by kernel_rfl) fun t numbers c0 c1 c2 κ x h=>Eq.trans (b:=PZ k (xk c0 c1 c2 κ) (fun v19=>(zC k).lp κ 5 [] k (Ks c0 c1 c2 numbers v19)) t numbers c0 c1 c2) (by kernel_rfl) (Eq.trans (by simp only [Wj];rfl) (ag h))
def xW {S:Type} (k:Nat):Rw S:=ae nA xn fun t vars dims κ=>aa k (vk k t vars dims) (dL κ)
def TN {S:Type} (k:Nat):Fx S:=fp 18 [(83,Np k)] [] k Tryz.f119 0
theorem Bf {S:Type} (o:Obj) (ho:ad o) (k:Nat):Tl o 119 (xW k:Rw S):=af (TN k) ⟨ZK o ho k,trivial⟩ Tryz.func119 (by kernel_rfl) fun t vars dims κ x h=>Eq.trans (by kernel_rfl) (ag h)
def mi {S:Type} (k:Nat):Rw S:=ae BL bm fun t vars dims c0 κ=>aa k (eo k t vars dims c0) (eD κ)
def TO {S:Type} (k:Nat):Fx S:=fp 21 [(93,fb k),(94,fc k),(119,xW k)] [] k Tryz.f56 1
theorem nq {S:Type} (o:Obj) (ho:ad o) (k:Nat):Tl o 56 (mi k:Rw S):=af (TO k) ⟨fB o ho k,fC o ho k,Bf o ho k,trivial⟩ Tryz.func56 (by kernel_rfl) fun t vars dims c0 κ x h=>Eq.trans (by kernel_rfl) (ag h)
def Nq {S:Type} (k:Nat):Rw S:=ae d6 xn fun a_n κ=>aa k (G8 k a_n) (CY κ)
def TP {S:Type} (k:Nat):Fx S:=fx 5 (fun _=>[]) (fun _=>false) [] [] k Tryz.f95 true [] 0
theorem ZL {S:Type} (o:Obj) (ho:ad o) (k:Nat):Tl o 95 (Nq k:Rw S):=af (TP k) trivial Tryz.func95 (by kernel_rfl) fun a_n κ x h=>Eq.trans (by kernel_rfl) (ag h)
def jp {S:Type} (k:Nat):Rw S:=ae abr bm fun a_e c0 κ=>aa k (gK k a_e c0) (afc κ)
def TQ {S:Type} (k:Nat):Fx S:=fp 13 [] [] k Tryz.f270 1
theorem jP {S:Type} (o:Obj) (ho:ad o) (k:Nat):Tl o 270 (jp k:Rw S):=af (TQ k) trivial Tryz.func270 (by kernel_rfl) fun a_e c0 κ x h=>Eq.trans (by kernel_rfl) (ag h)
def xX {S:Type} (k:Nat):Rw S:=ae ID xn fun l κ=>aa k (uR k l) (xl κ)
def zD {S:Type} (k:Nat):Fx S:=fp 22 [(40,fI k),(270,jp k)] [(3,aE [3,8,9,10] [(7,1)],am 5 11)] k Tryz.f207 0
def Kt (l:List Tm) (b7_0 v10:Int):St UU:=⟨[(3,(pt 7)),(8,(sT l)),(9,(.int .i64 (l.length:Int))),(10,(iI v10))],[(7,bI b7_0)],[],[]⟩
section
variable {S:Type} (k:Nat) (l:List Tm) (κ:Out UU→Option S)
theorem Wl: ∀n b7_0 v10,(zD k).lp κ 3 [] n (Kt l b7_0 v10)=BR k (xl κ) l n b7_0 v10:=aA (FS k (xl κ) l) rfl (fun _=>rfl) fun r b7_0 v10=>by kernel_rfl
end
theorem Bg {S:Type} (o:Obj) (ho:ad o) (k:Nat):Tl o 207 (xX k:Rw S):=af (zD k) ⟨f7 o ho k,jP o ho k,trivial⟩ Tryz.func207 (by kernel_rfl) fun l κ x h=>Eq.trans (b:=Pb k (xl κ) (fun b7_0 v10=>(zD k).lp κ 3 [] k (Kt l b7_0 v10)) l) (by kernel_rfl) (Eq.trans (by simp only [Wl];rfl) (ag h))
def kx {S:Type} (k:Nat):Rw S:=ae rp bm fun c0 κ=>aa k (fV k c0) (dV c0 κ)
def TR {S:Type} (k:Nat):Fx S:=fp 8 [] [] k Tryz.f210 1
theorem lq {S:Type} (o:Obj) (ho:ad o) (k:Nat):Tl o 210 (kx k:Rw S):=af (TR k) trivial Tryz.func210 (by kernel_rfl) fun c0 κ x h=>Eq.trans (by kernel_rfl) (ag h)
def Nr {S:Type} (k:Nat):Rw S:=ae II bm fun f c0 κ=>aa k (Ao k f c0) (xm κ)
def TS {S:Type} (k:Nat):Fx S:=fp 23 [(75,mh k),(210,kx k),(270,jp k)] [] k Tryz.f211 1
theorem ZM {S:Type} (o:Obj) (ho:ad o) (k:Nat):Tl o 211 (Nr k:Rw S):=af (TS k) ⟨np o ho k,lq o ho k,jP o ho k,trivial⟩ Tryz.func211 (by kernel_rfl) fun f c0 κ x h=>Eq.trans (by kernel_rfl) (ag h)
def Ns {S:Type} (k:Nat):Rw S:=ae IF xn fun l κ=>aa k (GG k l) (ay κ)
def zE {S:Type} (k:Nat):Fx S:=fp 15 [(205,oG k)] [(2,aE [5,6,7] [],am 4 5)] k Tryz.f337 0
def Kv (l:List (List Cl)) (v7:Int):St UU:=⟨[(5,(yp l .none)),(6,(.int .i64 (l.length:Int))),(7,(iI v7))],[],[],[]⟩
section
variable {S:Type} (k:Nat) (l:List (List Cl)) (κ:Out UU→Option S)
theorem Wp: ∀n v7,(zE k).lp κ 2 [] n (Kv l v7)=BT k (ay κ) l n v7:=b9 (FU k (ay κ) l) rfl (fun _=>rfl) fun r v7=>by kernel_rfl
end
theorem ZN {S:Type} (o:Obj) (ho:ad o) (k:Nat):Tl o 337 (Ns k:Rw S):=af (zE k) ⟨qX o ho k,trivial⟩ Tryz.func337 (by kernel_rfl) fun l κ x h=>Eq.trans (b:=PA k (ay κ) (fun v7=>(zE k).lp κ 2 [] k (Kv l v7)) l) (by kernel_rfl) (Eq.trans (by simp only [Wp];rfl) (ag h))
def DA {S:Type} (k:Nat):Rw S:=ae gb xn fun f g κ=>aa k (qu k f g) (aq κ)
def TT {S:Type} (k:Nat):Fx S:=fp 14 [(146,gx k)] [] k Tryz.f243 0
theorem HM {S:Type} (o:Obj) (ho:ad o) (k:Nat):Tl o 243 (DA k:Rw S):=af (TT k) ⟨gY o ho k,trivial⟩ Tryz.func243 (by kernel_rfl) fun f g κ x h=>Eq.trans (by kernel_rfl) (ag h)
def Nt {S:Type} (k:Nat):Rw S:=ae gb xn fun f g κ=>aa k (GE k f g) (aq κ)
def TU {S:Type} (k:Nat):Fx S:=fp 19 [(243,DA k),(337,Ns k)] [] k Tryz.f327 0
theorem ZO {S:Type} (o:Obj) (ho:ad o) (k:Nat):Tl o 327 (Nt k:Rw S):=af (TU k) ⟨HM o ho k,ZN o ho k,trivial⟩ Tryz.func327 (by kernel_rfl) fun f g κ x h=>Eq.trans (by kernel_rfl) (ag h)
def Nu {S:Type} (k:Nat):Rw S:=ae abt bm fun f g c0 κ=>aa k (An k f g c0) (xm κ)
def TV {S:Type} (k:Nat):Fx S:=fp 26 [(210,kx k),(270,jp k),(327,Nt k)] [] k Tryz.f302 1
theorem ZP {S:Type} (o:Obj) (ho:ad o) (k:Nat):Tl o 302 (Nu k:Rw S):=af (TV k) ⟨lq o ho k,jP o ho k,ZO o ho k,trivial⟩ Tryz.func302 (by kernel_rfl) fun f g c0 κ x h=>Eq.trans (by kernel_rfl) (ag h)
def Nv {S:Type} (k:Nat):Rw S:=ae BJ yJ fun c0 c1 c2 κ=>aa k (vl k c0 c1 c2) (Ld c0 c1 c2 κ)
def TW {S:Type} (k:Nat):Fx S:=fp 10 [(85,sW (cK k))] [] k Tryz.f84 3
theorem ZQ {S:Type} (o:Obj) (ho:ad o) (k:Nat):Tl o 84 (Nv k:Rw S):=af (TW k) ⟨wx o ho k,trivial⟩ Tryz.func84 (by kernel_rfl) fun c0 c1 c2 κ x h=>Eq.trans (by kernel_rfl) (ag h)
def Nw {S:Type} (k:Nat):Rw S:=ae abv yJ fun t numbers c0 c1 c2 κ=>aa k (vm k t numbers c0 c1 c2) (kr c0 c1 c2 κ)
def zF {S:Type} (k:Nat):Fx S:=⟨⟨30,(fun _=>[]),(fun _=>false),.none,fun|6=>true|7=>true|_=>false⟩,[(40,fI k),(84,Nv k)],[(5,⟨[(2,.none),(6,.none),(7,.none),(17,.none),(18,.none),(19,.none)],[(1000000,[.none]),(1000001,[.none,.none,.none,.none,.none,.none]),(1000002,[.none]),(5000006,[.none,.none,.none,some (320200387,true),some (320200388,true),some (320200389,true)]),(5000007,[.none])]⟩,am 5 11)],k,Tryz.f83,false,[],3,some (mJ 16 164 Tryz.f164 k)⟩
def Kw (c0:Int) (c1:Tm) (c2:Int) (numbers:List Int) (v19:Int):St UU:=⟨[(2,(.func 84 [] [(pt 1000000),(pt 1000001),(pt 1000002)])),(6,(pt 5000006)),(7,(pt 5000007)),(17,(jt numbers .none)),(18,(.int .i64 (numbers.length:Int))),(19,(iI v19))],[(1000000,bI c0),(1000001,bT c1),(1000002,bI c2),(5000006,.cells [(iI 0),(iI 0),(.str ByteArray.empty),(.own 320200387 0),(.own 320200388 0),(.own 320200389 0)]),(5000007,bI 0)],[(320200389,⟨0,ET.B,([]:List (Br Tm))⟩),(320200388,⟨0,ET.T,([]:List Tm)⟩),(320200387,⟨0,ET.C,([]:List Cl)⟩)],[(320200389,.wr),(320200388,.wr),(320200387,.wr)]⟩
section
variable {S:Type} (k:Nat) (t:Tm) (numbers:List Int) (c0:Int) (c1:Tm) (c2:Int) (κ:Out UU→Option S)
theorem Wq: ∀n v19,(zF k).lp κ 5 [] n (Kw c0 c1 c2 numbers v19)=lA k (kr c0 c1 c2 κ) c0 c1 c2 numbers n v19:=b9 (tV k (kr c0 c1 c2 κ) c0 c1 c2 numbers) rfl (fun _=>rfl) fun r v19=>by kernel_rfl
end
theorem ZR {S:Type} (o:Obj) (ho:ad o) (k:Nat):Tl o 83 (Nw k:Rw S):=yA (zF k) rfl (uL o Tryz.func164 (by kernel_rfl)) ⟨f7 o ho k,ZQ o ho k,trivial⟩ Tryz.func83 (by kernel_rfl) fun t numbers c0 c1 c2 κ x h=>Eq.trans (b:=yw k (kr c0 c1 c2 κ) (fun v19=>(zF k).lp κ 5 [] k (Kw c0 c1 c2 numbers v19)) t numbers c0 c1 c2) (by kernel_rfl) (Eq.trans (by simp only [Wq];rfl) (ag h))
def sX {S:Type} (k:Nat):Rw S:=ae nA xn fun t a_from a_by κ=>aa k (iE k t a_from a_by) (dL κ)
def TX {S:Type} (k:Nat):Fx S:=fp 16 [(83,Nw k)] [] k Tryz.f35 0
theorem vY {S:Type} (o:Obj) (ho:ad o) (k:Nat):Tl o 35 (sX k:Rw S):=af (TX k) ⟨ZR o ho k,trivial⟩ Tryz.func35 (by kernel_rfl) fun t a_from a_by κ x h=>Eq.trans (by kernel_rfl) (ag h)
def sY {S:Type} (k:Nat):Rw S:=ae jV xn fun s i κ=>aa k (gM k s i) (bG κ)
def TY {S:Type} (k:Nat):Fx S:=fp 16 [(232,sS k)] [] k Tryz.f222 0
theorem vZ {S:Type} (o:Obj) (ho:ad o) (k:Nat):Tl o 222 (sY k:Rw S):=af (TY k) ⟨vX o ho k,trivial⟩ Tryz.func222 (by kernel_rfl) fun s i κ x h=>Eq.trans (by kernel_rfl) (ag h)
def Nx {S:Type} (k:Nat):Rw S:=ae rm xn fun a_x κ=>aa k (G3 k a_x) (ay κ)
def T0 {S:Type} (k:Nat):Fx S:=fp 21 [] [] k Tryz.f275 0
theorem ZS {S:Type} (o:Obj) (ho:ad o) (k:Nat):Tl o 275 (Nx k:Rw S):=af (T0 k) trivial Tryz.func275 (by kernel_rfl) fun a_x κ x h=>Eq.trans (by kernel_rfl) (ag h)
def xZ {S:Type} (k:Nat):Rw S:=ae rm xn fun s κ=>aa k (jE k s) (ay κ)
def T1 {S:Type} (k:Nat):Fx S:=fp 6 [(275,Nx k)] [] k Tryz.f221 0
theorem Bh {S:Type} (o:Obj) (ho:ad o) (k:Nat):Tl o 221 (xZ k:Rw S):=af (T1 k) ⟨ZS o ho k,trivial⟩ Tryz.func221 (by kernel_rfl) fun s κ x h=>Eq.trans (by kernel_rfl) (ag h)
def Ny {S:Type} (k:Nat):Rw S:=ae d6 xn fun i κ=>aa k (uX k i) (ar κ)
def T2 {S:Type} (k:Nat):Fx S:=fp 7 [(221,xZ k),(222,sY k)] [] k Tryz.f139 0
theorem ZT {S:Type} (o:Obj) (ho:ad o) (k:Nat):Tl o 139 (Ny k:Rw S):=af (T2 k) ⟨Bh o ho k,vZ o ho k,trivial⟩ Tryz.func139 (by kernel_rfl) fun i κ x h=>Eq.trans (by kernel_rfl) (ag h)
def Nz {S:Type} (k:Nat):Rw S:=ae BM xn fun t i a_r κ=>aa k (u4 k t i a_r) (ay κ)
def T3 {S:Type} (k:Nat):Fx S:=fp 21 [(40,fI k),(139,Ny k),(140,mg k)] [] k Tryz.f74 0
theorem ZU {S:Type} (o:Obj) (ho:ad o) (k:Nat):Tl o 74 (Nz k:Rw S):=af (T3 k) ⟨f7 o ho k,ZT o ho k,nn o ho k,trivial⟩ Tryz.func74 (by kernel_rfl) fun t i a_r κ x h=>Eq.trans (by kernel_rfl) (ag h)
def NA {S:Type} (k:Nat):Rw S:=ae IJ tt fun c0 c1 κ=>aa k (As k c0 c1) (afd c0 c1 κ)
def T4 {S:Type} (k:Nat):Fx S:=fp 6 [] [] k Tryz.f147 2
theorem ZV {S:Type} (o:Obj) (ho:ad o) (k:Nat):Tl o 147 (NA k:Rw S):=af (T4 k) trivial Tryz.func147 (by kernel_rfl) fun c0 c1 κ x h=>Eq.trans (by kernel_rfl) (ag h)
def NC {S:Type} (k:Nat):Rw S:=ae abw tt fun c0 c1 κ=>aa k (Au k c0 c1) (afe c0 c1 κ)
def T5 {S:Type} (k:Nat):Fx S:=fp 6 [] [] k Tryz.f147 2
theorem ZW {S:Type} (o:Obj) (ho:ad o) (k:Nat):Tl o 147 (NC k:Rw S):=af (T5 k) trivial Tryz.func147 (by kernel_rfl) fun c0 c1 κ x h=>Eq.trans (by kernel_rfl) (ag h)
def ND {S:Type} (k:Nat):Rw S:=ae abx xn fun i a_r κ=>aa k (Ar k i a_r) (aff κ)
def T6 {S:Type} (k:Nat):Fx S:=fp 12 [(147,l_ (re IJ tt) (NA k) (NC k))] [] k Tryz.f76 0
theorem ZX {S:Type} (o:Obj) (ho:ad o) (k:Nat):Tl o 76 (ND k:Rw S):=af (T6 k) ⟨sA (ZV o ho k) (ZW o ho k),trivial⟩ Tryz.func76 (by kernel_rfl) fun i a_r κ x h=>Eq.trans (by kernel_rfl) (ag h)
def oH {S:Type} (k:Nat):Rw S:=ae jV xn fun s i κ=>aa k (fj k s i) (ar κ)
def T7 {S:Type} (k:Nat):Fx S:=fp 15 [(232,sS k)] [] k Tryz.f149 0
theorem qY {S:Type} (o:Obj) (ho:ad o) (k:Nat):Tl o 149 (oH k:Rw S):=af (T7 k) ⟨vX o ho k,trivial⟩ Tryz.func149 (by kernel_rfl) fun s i κ x h=>Eq.trans (by kernel_rfl) (ag h)
def DC {S:Type} (k:Nat):Rw S:=ae dI xn fun f κ=>aa k (qi k f) (eF κ)
def T8 {S:Type} (k:Nat):Fx S:=fp 5 [] [] k Tryz.f151 0
theorem HO {S:Type} (o:Obj) (ho:ad o) (k:Nat):Tl o 151 (DC k:Rw S):=af (T8 k) trivial Tryz.func151 (by kernel_rfl) fun f κ x h=>Eq.trans (by kernel_rfl) (ag h)
def DD {S:Type} (k:Nat):Rw S:=ae d6 xn fun i κ=>aa k (qr k i) (ar κ)
def T9 {S:Type} (k:Nat):Fx S:=fp 7 [(221,xZ k),(222,sY k)] [] k Tryz.f239 0
theorem HP {S:Type} (o:Obj) (ho:ad o) (k:Nat):Tl o 239 (DD k:Rw S):=af (T9 k) ⟨Bh o ho k,vZ o ho k,trivial⟩ Tryz.func239 (by kernel_rfl) fun i κ x h=>Eq.trans (by kernel_rfl) (ag h)
def DE {S:Type} (k:Nat):Rw S:=ae lw xn fun c κ=>aa k (qn k c) (afg κ)
def Ua {S:Type} (k:Nat):Fx S:=fp 8 [(269,Dy k)] [] k Tryz.f284 0
theorem HQ {S:Type} (o:Obj) (ho:ad o) (k:Nat):Tl o 284 (DE k:Rw S):=af (Ua k) ⟨HK o ho k,trivial⟩ Tryz.func284 (by kernel_rfl) fun c κ x h=>Eq.trans (by kernel_rfl) (ag h)
def NF {S:Type} (k:Nat):Rw S:=ae aby xn fun l κ=>aa k (u9 k l) (eF κ)
def zG {S:Type} (k:Nat):Fx S:=fp 29 [(284,DE k)] [(3,⟨[(1,.none),(5,some (100005,true)),(10,.none),(11,.none),(12,.none)],[]⟩,am 5 11)] k Tryz.f272 0
def Ky (l:List Cl) (v12:Int) (out5:List Cl):St UU:=⟨[(1,(.func 284 [] [])),(5,(.own 100005 0)),(10,(sC l)),(11,(.int .i64 (l.length:Int))),(12,(iI v12))],[],[(100005,⟨0,ET.C,out5⟩)],[(100005,.wr)]⟩
section
variable {S:Type} (k:Nat) (l:List Cl) (κ:Out UU→Option S)
theorem Wu: ∀n v12 out5,(zG k).lp κ 3 [] n (Ky l v12 out5)=nG k (eF κ) l n v12 out5:=aA (tL k (eF κ) l) rfl (fun _=>rfl) fun r v12 out5=>by kernel_rfl
end
theorem ZZ {S:Type} (o:Obj) (ho:ad o) (k:Nat):Tl o 272 (NF k:Rw S):=af (zG k) ⟨HQ o ho k,trivial⟩ Tryz.func272 (by kernel_rfl) fun l κ x h=>Eq.trans (b:=Eu k (eF κ) (fun v12 out5=>(zG k).lp κ 3 [] k (Ky l v12 out5)) l) (by kernel_rfl) (Eq.trans (by simp only [Wu];rfl) (ag h))
def DF {S:Type} (k:Nat):Rw S:=ae dI xn fun f κ=>aa k (qm k f) (aq κ)
def Ub {S:Type} (k:Nat):Fx S:=fp 12 [(140,mg k),(146,gx k),(272,NF k)] [] k Tryz.f240 0
theorem HR {S:Type} (o:Obj) (ho:ad o) (k:Nat):Tl o 240 (DF k:Rw S):=af (Ub k) ⟨nn o ho k,gY o ho k,ZZ o ho k,trivial⟩ Tryz.func240 (by kernel_rfl) fun f κ x h=>Eq.trans (by kernel_rfl) (ag h)
def NG {S:Type} (k:Nat):Rw S:=ae wD tr fun b c0 κ=>aa k (u_ k b c0) (afh c0 κ)
def Uc {S:Type} (k:Nat):Fx S:=fp 11 [(278,xJ k),(284,DE k)] [] k Tryz.f285 1
theorem Z0 {S:Type} (o:Obj) (ho:ad o) (k:Nat):Tl o 285 (NG k:Rw S):=af (Uc k) ⟨A5 o ho k,HQ o ho k,trivial⟩ Tryz.func285 (by kernel_rfl) fun b c0 κ x h=>Eq.trans (by kernel_rfl) (ag h)
def NH {S:Type} (k:Nat):Rw S:=ae abz tr fun l c0 κ=>aa k (u7 k l c0) (xo c0 κ)
def zH {S:Type} (k:Nat):Fx S:=fp 29 [(285,NG k)] [(3,⟨[(1,.none),(5,some (100005,true)),(10,.none),(11,.none),(12,.none)],[(1000000,[.none,.none])]⟩,am 5 11)] k Tryz.f272 1
def Kz (c0:Cl) (l:List Cl) (v12:Int) (out5:List Cl):St UU:=⟨[(1,(.func 285 [] [(pt 1000000)])),(5,(.own 100005 0)),(10,(sC l)),(11,(.int .i64 (l.length:Int))),(12,(iI v12))],[(1000000,bC c0)],[(100005,⟨0,ET.C,out5⟩)],[(100005,.wr)]⟩
section
variable {S:Type} (k:Nat) (l:List Cl) (c0:Cl) (κ:Out UU→Option S)
theorem Wv: ∀n v12 out5,(zH k).lp κ 3 [] n (Kz c0 l v12 out5)=nF k (xo c0 κ) c0 l n v12 out5:=aA (tK k (xo c0 κ) c0 l) rfl (fun _=>rfl) fun r v12 out5=>by kernel_rfl
end
theorem Z1 {S:Type} (o:Obj) (ho:ad o) (k:Nat):Tl o 272 (NH k:Rw S):=af (zH k) ⟨Z0 o ho k,trivial⟩ Tryz.func272 (by kernel_rfl) fun l c0 κ x h=>Eq.trans (b:=Et k (xo c0 κ) (fun v12 out5=>(zH k).lp κ 3 [] k (Kz c0 l v12 out5)) l c0) (by kernel_rfl) (Eq.trans (by simp only [Wv];rfl) (ag h))
def NI {S:Type} (k:Nat):Rw S:=ae gb xn fun f g κ=>aa k (mO k f g) (aq κ)
def zI {S:Type} (k:Nat):Fx S:=fp 25 [(146,gx k),(272,NH k)] [(3,⟨[(1,.none),(6,some (100006,true)),(9,.none),(10,.none),(11,.none)],[]⟩,am 5 11)] k Tryz.f241 0
def KA (g f:List Cl) (v11:Int) (out6:List Cl):St UU:=⟨[(1,(sC g)),(6,(.own 100006 0)),(9,(sC f)),(10,(.int .i64 (f.length:Int))),(11,(iI v11))],[],[(100006,⟨0,ET.C,out6⟩)],[(100006,.wr)]⟩
section
variable {S:Type} (k:Nat) (f g:List Cl) (κ:Out UU→Option S)
theorem Ww: ∀n v11 out6,(zI k).lp κ 3 [] n (KA g f v11 out6)=nH k (aq κ) g f n v11 out6:=aA (tM k (aq κ) g f) rfl (fun _=>rfl) fun r v11 out6=>by kernel_rfl
end
theorem Z2 {S:Type} (o:Obj) (ho:ad o) (k:Nat):Tl o 241 (NI k:Rw S):=af (zI k) ⟨gY o ho k,Z1 o ho k,trivial⟩ Tryz.func241 (by kernel_rfl) fun f g κ x h=>Eq.trans (b:=Ev k (aq κ) (fun v11 out6=>(zI k).lp κ 3 [] k (KA g f v11 out6)) f g) (by kernel_rfl) (Eq.trans (by simp only [Ww];rfl) (ag h))
def x_ {S:Type} (k:Nat):Rw S:=ae cn xn fun κ=>aa k (qv k) (eF κ)
def Ud {S:Type} (k:Nat):Fx S:=fp 3 [] [] k Tryz.f29 0
theorem Bj {S:Type} (o:Obj) (ho:ad o) (k:Nat):Tl o 29 (x_ k:Rw S):=af (Ud k) trivial Tryz.func29 (by kernel_rfl) fun κ x h=>Eq.trans (by kernel_rfl) (ag h)
def NJ {S:Type} (k:Nat):Rw S:=ae lw xn fun c κ=>aa k (vh k c) (aq κ)
def ph {S:Type} (k:Nat):Fx S:=fp 43 [(146,gx k),(222,sY k),(314,DP)] [(3,⟨[(1,.none),(4,some (100004,true)),(11,.none),(12,.none),(13,.none)],[(1,[.none,.none])]⟩,am 5 11),(8,⟨[(4,some (100004,true)),(26,.none),(27,.none),(28,.none)],[]⟩,am 6 23)] k Tryz.f283 0
def CG (c:Cl) (r1:List Int) (v13:Int) (out4:List Cl):St UU:=⟨[(1,(pt 1)),(4,(.own 100004 0)),(11,(jt r1 .none)),(12,(.int .i64 (r1.length:Int))),(13,(iI v13))],[(1,bC c)],[(100004,⟨0,ET.C,out4⟩)],[(100004,.wr)]⟩
def KB (r5:List Int) (v28:Int) (out4':List Cl):St UU:=⟨[(4,(.own 100004 0)),(26,(jt r5 .none)),(27,(.int .i64 (r5.length:Int))),(28,(iI v28))],[],[(100004,⟨0,ET.C,out4'⟩)],[(100004,.wr)]⟩
section
variable {S:Type} (k:Nat) (c:Cl) (κ:Out UU→Option S)
theorem Wy (r5): ∀n v28 out4',(ph k).lp κ 8 [] n (KB r5 v28 out4')=lz k (aq κ) r5 n v28 out4':=aA (tT k (aq κ) r5) rfl (fun _=>rfl) fun r v28 out4'=>by kernel_rfl
theorem Wx (r1): ∀n v13 out4,(ph k).lp κ 3 [] n (CG c r1 v13 out4)=nN k (aq κ) c r1 n v13 out4:=aA (fun own=>pw k (aq κ) c r1 (fun r5 v28 out4'=>lz k (aq κ) r5 k v28 out4') own) rfl (fun _=>rfl) fun r v13 out4=>Eq.trans (b:=pw k (aq κ) c r1 (fun r5 v28 out4'=>(ph k).lp κ 8 [] k (KB r5 v28 out4')) (fun v13 out4=>r (CG c r1 v13 out4)) v13 out4) (by kernel_rfl) (by simp only [Wy])
end
theorem Z3 {S:Type} (o:Obj) (ho:ad o) (k:Nat):Tl o 283 (NJ k:Rw S):=af (ph k) ⟨gY o ho k,vZ o ho k,ai9 o ho,trivial⟩ Tryz.func283 (by kernel_rfl) fun c κ x h=>Eq.trans (b:=ED k (aq κ) (fun r1 v13 out4=>(ph k).lp κ 3 [] k (CG c r1 v13 out4)) c) (by kernel_rfl) (Eq.trans (by simp only [Wx];rfl) (ag h))
def DG {S:Type} (k:Nat):Rw S:=ae gb xn fun f g κ=>aa k (iD k f g) (aq κ)
def pi {S:Type} (k:Nat):Fx S:=fp 35 [(146,gx k),(278,xJ k)] [(3,⟨[(1,.none),(6,some (100006,true)),(11,.none),(12,.none),(13,.none)],[]⟩,am 5 11),(6,⟨[(1,.none),(6,some (100006,true)),(8,.none),(11,.none),(12,.none),(13,.none),(17,.none),(18,.none),(19,.none)],[(8,[.none,.none])]⟩,am 13 3275)] k Tryz.f236 0
def sk (g f:List Cl) (v13:Int) (out6:List Cl):St UU:=⟨[(1,(sC g)),(6,(.own 100006 0)),(11,(sC f)),(12,(.int .i64 (f.length:Int))),(13,(iI v13))],[],[(100006,⟨0,ET.C,out6⟩)],[(100006,.wr)]⟩
def KC (x1:Cl) (g f:List Cl) (v13:Int) (v19:Int) (out6':List Cl):St UU:=⟨[(1,(sC g)),(6,(.own 100006 0)),(8,(pt 8)),(11,(sC f)),(12,(.int .i64 (f.length:Int))),(13,(iI v13)),(17,(sC g)),(18,(.int .i64 (g.length:Int))),(19,(iI v19))],[(8,bC x1)],[(100006,⟨0,ET.C,out6'⟩)],[(100006,.wr)]⟩
section
variable {S:Type} (k:Nat) (f g:List Cl) (κ:Out UU→Option S)
theorem WA (x1 v13 κ0): ∀n v19 out6',(pi k).lp κ 6 [κ0] n (KC x1 g f v13 v19 out6')=ly k (aq κ) (fun v13 out6=>κ0 (sk g f v13 out6)) x1 g f v13 n v19 out6':=aA (tR k (aq κ) x1 g f v13 (fun v13 out6=>κ0 (sk g f v13 out6))) rfl (fun _=>rfl) fun r v19 out6'=>by kernel_rfl
theorem Wz: ∀n v13 out6,(pi k).lp κ 3 [] n (sk g f v13 out6)=j5 k (aq κ) g f n v13 out6:=aA (fun own=>pu k (aq κ) g f (fun x1 v13 v19 out6'=>ly k (aq κ) own x1 g f v13 k v19 out6') own) rfl (fun _=>rfl) fun r v13 out6=>Eq.trans (b:=pu k (aq κ) g f (fun x1 v13 v19 out6'=>(pi k).lp κ 6 [r] k (KC x1 g f v13 v19 out6')) (fun v13 out6=>r (sk g f v13 out6)) v13 out6) (by kernel_rfl) (by simp only [WA])
end
theorem HS {S:Type} (o:Obj) (ho:ad o) (k:Nat):Tl o 236 (DG k:Rw S):=af (pi k) ⟨gY o ho k,A5 o ho k,trivial⟩ Tryz.func236 (by kernel_rfl) fun f g κ x h=>Eq.trans (b:=EC k (aq κ) (fun v13 out6=>(pi k).lp κ 3 [] k (sk g f v13 out6)) f g) (by kernel_rfl) (Eq.trans (by simp only [Wz];rfl) (ag h))
end
end Go.Proofs.YtgajalidbabccaaGreatDoor
