/- Part 5 of a proof: the sources, with their names and remarks, lie in wip/. -/
import Derived.Test.YtapmagaejigpnaaGreatDoorX4
import Derived.Test.YtapmagaejigpnaaGreatDoorRows
import Derived.ProofKit
import Derived.OpenShut
import Derived.ChangeArms
import Derived.Deep.Slices
import Derived.Shelf.SlSortCmp.NoneTotal
import Derived.Ground.SlsfProg
import Derived.Test.YtapmagaejigpnaaGreatDoorProg
import Derived.Shelf.Spec.TrailingZeros
import Derived.RangeFuncBound
import Derived.RangeFuncLeaves
import Derived.RangeFuncOwn
import Derived.OwnWalkIn
import Derived.TacticsInMore
import Derived.LoopNIn
import Derived.LoopIn
import Derived.Maps.RangeWalk
import Derived.Maps.AppendAt
import Derived.Test.YtapmagaejigpnaaGreatDoorCards
import Derived.Test.YtapmagaejigpnaaGreatDoorTie
import Derived.WalkKit
import Derived.ReadAgain
import Derived.Deep.DeepHandedRow
import Derived.Lib.LaidTab
namespace Go.Proofs.YtapmagaejigpnaaGreatDoor
open Go PI
set_option linter.unusedVariables false
set_option linter.unusedSimpArgs false
set_option maxRecDepth 20000
variable {S:Type} {k:Nat}
def RF (f:List Cl):Prop:=bk f=(f,0)∧am f
theorem fV {f:List Cl} (h:am f):bn f=true↔RF f:=by unfold bn RF;simp [h]
theorem RF.right {f:List Cl} (h:RF f):bn f=true:=by unfold bn;simp [h.1]
theorem pS {l o:List Cl} (h:bk l=(o,0)):o=dn l∧l.all c7=true∧o.length≤64:=by
 unfold bk at h
 split at h
 ·next ha=>
  split at h
  ·cases h
  ·next hl=>cases h;exact ⟨rfl,ha,by omega⟩
 ·cases h
theorem RF.len {f:List Cl} (h:RF f):f.length≤64:=(pS h.1).2.2
theorem RF.rc {f:List Cl} (h:RF f) {c:Cl} (hc:c∈f):RC c:=(zD (h.2 c hc)).1 (List.all_eq_true.1 (pS h.1).2.1 c hc)
theorem acD (l:List Cl):dn (dn l)=dn l:=zR (pX _) (pX _) fun c=>by
 rw [mem_mins]
 constructor
 ·exact fun h=>h.1
 ·intro h
  refine ⟨h, ?_⟩
  have:=(mem_mins.1 h).2
  simp only [bP,List.all_eq_true] at this ⊢
  exact fun d hd=>this d (mem_mins.1 hd).1
theorem pT {l:List Cl} (hl:am l) (h:(bk l).2=0):RF (bk l).1:=by
 have h':bk l=((bk l).1,0):=Prod.ext rfl h
 obtain ⟨h1,h2,h3⟩:=pS h'
 have hok:am (bk l).1:=fun c hc=>hl c ((mem_mins.1 (h1▸hc)).1)
 refine ⟨?_,hok⟩
 have ha:(bk l).1.all c7=true:=List.all_eq_true.2 fun c hc=>List.all_eq_true.1 h2 c (mem_mins.1 (h1▸hc)).1
 rw [h1] at ha ⊢ h3
 unfold bk
 rw [if_pos ha,acD,if_neg (by omega)]
theorem C_ {l:List Cl} (h:(bk l).2≠0):(bk l).1=[]:=by
 unfold bk at h ⊢
 split
 ·next ha=>
  rw [if_pos ha] at h
  split
  ·rfl
  ·next hl=>rw [if_neg hl] at h;exact absurd rfl h
 ·rfl
theorem uA:RF []:=⟨rfl,fun c hc=>by cases hc⟩
theorem gz {c:Cl} (h:RC c):RF [c]:=by
 have hok:am [c]:=fun d hd=>by simp at hd;subst hd;exact h.ok
 refine ⟨?_,hok⟩
 have hm:dn [c]=[c]:=zR (pX _) (by simp) fun d=>by
  rw [mem_mins];simp only [List.mem_singleton]
  constructor
  ·exact fun h=>h.1
  ·rintro rfl;simp [bP]
 unfold bk
 rw [hm,if_pos (by simp [(zD h.ok).2 h]),if_neg (by simp)]
theorem nJ:RC ⟨0,0⟩:=⟨⟨by decide,by decide⟩,by decide,by decide⟩
theorem eY {f g:List Cl} (hf:am f) (hg:am g):am (f++g):=fun c hc=>by
 rcases List.mem_append.1 hc with h|h
 ·exact hf c h
 ·exact hg c h
theorem abK (hk:Fu k) (ret:Int→Option S) {l:List (List Cl)} (hl: ∀f∈l,am f∧f.length<2147483648) (hlen:l.length<4294967296):
  ∀ (r p:List (List Cl)) (m:Nat),l=p++r→r.length<m→pf k ret l m (p.length:Int)=ret (if r.all bn then 0 else 2):=by
 intro r
 induction r with
 |nil=>
  intro p m h hm
  obtain ⟨m,rfl,hm'⟩:=ak hm
  simp only [pf,vB,aA h,ad];rfl
 |cons x r ih=>
  intro p m h hm
  obtain ⟨m,rfl,hm'⟩:=ak hm
  obtain ⟨e1,e2,e3,e4⟩:=az h (by omega)
  have hx:=hl x (by rw [h];simp)
  simp only [pf,vB,e1,ae,e2,Option.bind_some,af hk,qE hk hx.1 hx.2,e3,ih (p++[x]) m e4 hm']
  by_cases hr:bn x=true
  ·have:(x::r).all bn=r.all bn:=by rw [List.all_cons,hr,Bool.true_and]
   rw [hr,Bool.not_true,ad,this]
  ·rw [Bool.not_eq_true] at hr
   have:(x::r).all bn=false:=by rw [List.all_cons,hr,Bool.false_and]
   rw [hr,Bool.not_false,ae,this,if_neg (by decide)]
theorem E5 (hk:Fu k) {l:List (List Cl)} (hl: ∀f∈l,am f∧f.length<2147483648) (hlen:l.length<4294967296) (ret:Int→Option S):om k l ret=ret (if l.all bn then 0 else 2):=by
 simp only [om,F1]
 exact abK hk ret hl hlen l [] k rfl (by have:4294967296≤k:=hk;omega)
def b8 (f g:List Cl):List Cl×Int:=bk (f++g)
def meets (f g:List Cl):List Cl:=f.flatMap fun a=>g.map (cL a)
def dj (f g:List Cl):List Cl×Int:=bk (meets f g)
theorem La {f g:List Cl} (hf:am f) (hg:am g):am (meets f g):=fun c hc=>by
 obtain ⟨a,ha,hc⟩:=List.mem_flatMap.1 hc
 obtain ⟨b,hb,rfl⟩:=List.mem_map.1 hc
 exact yI (hf a ha) (hg b hb)
theorem ahw (f g:List Cl):(meets f g).length=f.length*g.length:=by
 induction f with
 |nil=>simp [meets]
 |cons a f ih=>
  have:meets (a::f) g=g.map (cL a)++meets f g:=by simp [meets]
  rw [this,List.length_append,ih,List.length_map,List.length_cons,Nat.succ_mul];omega
theorem kh {f g:List Cl} (hf:am f) (hg:am g) (h:(dj f g).2=0):RF (dj f g).1:=pT (La hf hg) h
theorem I1 {f g:List Cl} (hf:am f) (hg:am g) (h:(b8 f g).2=0):RF (b8 f g).1:=pT (eY hf hg) h
theorem zK (hk:Fu k) {f g:List Cl} (hf:am f) (hg:am g) (h1:f.length<1073741824) (h2:g.length<1073741824) (ret:List Cl×Int→Option S):mF k f g ret=ret (b8 f g):=by
 simp only [mF,PW,af hk,List.nil_append]
 rw [aO (by simp;omega),aO (by omega),kx hk (eY hf hg) (by rw [List.length_append];omega)]
 rfl
theorem abg (hk:Fu k) (ret:List Cl×Int→Option S) (rec0:Int→List Cl→Option S) {x:Cl} (hx:aU x) {g f:List Cl} {v:Int} (hg:am g) (hlen:g.length<65536):
  ∀ (r p:List Cl) (m:Nat) (o:List Cl),g=p++r→r.length<m→o.length+r.length<1099511627776→mX k ret rec0 x g f v m (p.length:Int) o=rec0 (IntKind.wrap .i64 (v+1)) (o++r.map (cL x)):=by
 intro r
 induction r with
 |nil=>
  intro p m o h hm ho
  obtain ⟨m,rfl,hm'⟩:=ak hm
  simp only [mX,vz,aA h,ad,List.map_nil,List.append_nil]
 |cons y r ih=>
  intro p m o h hm ho
  obtain ⟨m,rfl,hm'⟩:=ak hm
  obtain ⟨e1,e2,e3,e4⟩:=az h (by omega)
  have hy:aU y:=hg y (by rw [h];simp)
  simp only [List.length_cons] at ho
  simp only [mX,vz,e1,ae,e2,Option.bind_some,af hk,E3 hk hx hy,e3]
  rw [aO (by simp;omega),ih (p++[y]) m (o++[cL x y]) e4 hm' (by simp;omega)]
  simp
theorem abf (hk:Fu k) (ret:List Cl×Int→Option S) {g f:List Cl} (hf:am f) (hg:am g) (hlf:f.length<32768) (hlg:g.length<32768):
  ∀ (r p:List Cl) (m:Nat) (o:List Cl),f=p++r→r.length<m→am o→o.length+r.length*g.length<1073741825→lA k ret g f m (p.length:Int) o=ret (bk (o++meets r g)):=by
 intro r
 induction r with
 |nil=>
  intro p m o h hm hok ho
  obtain ⟨m,rfl,hm'⟩:=ak hm
  simp only [lA,rg,aA h,ad,af hk]
  rw [kx hk hok (by omega)]
  simp [meets]
 |cons x r ih=>
  intro p m o h hm hok ho
  obtain ⟨m,rfl,hm'⟩:=ak hm
  obtain ⟨e1,e2,e3,e4⟩:=az h (by omega)
  have hx:aU x:=hf x (by rw [h];simp)
  have hmul:(x::r).length*g.length=r.length*g.length+g.length:=by rw [List.length_cons,Nat.succ_mul]
  rw [hmul] at ho
  have hk':4294967296≤k:=hk
  simp only [lA,rg,e1,ae,e2,Option.bind_some]
  have:=abg hk ret (lA k ret g f m) (f:=f) (v:=(p.length:Int)) hx hg (by omega) g [] k o rfl (by omega) (by omega)
  simp only [List.length_nil] at this
  rw [show (0:Int)=((0:Nat):Int) from rfl,this,e3,ih (p++[x]) m _ e4 hm' (eY hok fun c hc=>by
   obtain ⟨b,hb,rfl⟩:=List.mem_map.1 hc
   exact yI hx (hg b hb)) (by rw [List.length_append,List.length_map];omega)]
  simp [meets]
theorem uJ (hk:Fu k) {f g:List Cl} (hf:am f) (hg:am g) (h1:f.length<32768) (h2:g.length<32768) (ret:List Cl×Int→Option S):jJ k f g ret=ret (dj f g):=by
 simp only [jJ,FZ]
 have hb:f.length*g.length<1073741824:=Nat.lt_of_le_of_lt (Nat.mul_le_mul (Nat.le_of_lt_succ h1) (Nat.le_of_lt_succ h2)) (by decide)
 have:=abf hk ret hf hg h1 h2 f [] k [] rfl (by have:4294967296≤k:=hk;omega) (fun c hc=>by cases hc) (by simp;omega)
 simpa [dj] using this
theorem abQ (hk:Fu k) (ret:List Cl×Int→Option S) (rec0:List Cl→Int→Option S) {x:Cl} (hx:RC x) {g f:List Cl} {v:Int} (hfx:al f v=some x) (hg: ∀c∈g,RC c) (hlen:g.length<65536):
  ∀ (r p:List Cl) (m:Nat) (o:List Cl),g=p++r→r.length<m→o.length+r.length<1099511627776→m_ k ret rec0 f g v m o (p.length:Int)=rec0 (o++r.map (cL x)) (IntKind.wrap .i64 (v+1)):=by
 intro r
 induction r with
 |nil=>
  intro p m o h hm ho
  obtain ⟨m,rfl,hm'⟩:=ak hm
  simp only [m_,vS,aA h,ad,List.map_nil,List.append_nil]
 |cons y r ih=>
  intro p m o h hm ho
  obtain ⟨m,rfl,hm'⟩:=ak hm
  obtain ⟨e1,e2,e3,e4⟩:=az h (by omega)
  have hy:RC y:=hg y (by rw [h];simp)
  simp only [List.length_cons] at ho
  simp only [m_,vS,e1,ae,e2,hfx,Option.bind_some,af hk,OL hk hx hy,e3]
  rw [aO (by simp;omega),ih (p++[y]) m (o++[cL x y]) e4 hm' (by simp;omega)]
  simp
theorem abP (hk:Fu k) (ret:List Cl×Int→Option S) {g f:List Cl} (hf: ∀c∈f,RC c) (hg: ∀c∈g,RC c) (hlf:f.length<32768) (hlg:g.length<32768):
  ∀ (r p:List Cl) (m:Nat) (o:List Cl),f=p++r→r.length<m→am o→o.length+r.length*g.length<1073741825→lG k ret f g m o (p.length:Int)=ret (bk (o++meets r g)):=by
 intro r
 induction r with
 |nil=>
  intro p m o h hm hok ho
  obtain ⟨m,rfl,hm'⟩:=ak hm
  simp only [lG,rn,aA h,ad,af hk]
  rw [nM hk hok (by omega)]
  simp [meets]
 |cons x r ih=>
  intro p m o h hm hok ho
  obtain ⟨m,rfl,hm'⟩:=ak hm
  obtain ⟨e1,e2,e3,e4⟩:=az h (by omega)
  have hx:RC x:=hf x (by rw [h];simp)
  have hmul:(x::r).length*g.length=r.length*g.length+g.length:=by rw [List.length_cons,Nat.succ_mul]
  rw [hmul] at ho
  have hk':4294967296≤k:=hk
  simp only [lG,rn,e1,ae]
  have:=abQ hk ret (lG k ret f g m) hx e2 hg (by omega) g [] k o rfl (by omega) (by omega)
  simp only [List.length_nil] at this
  rw [show (0:Int)=((0:Nat):Int) from rfl,this,e3,ih (p++[x]) m _ e4 hm' (eY hok fun c hc=>by
   obtain ⟨b,hb,rfl⟩:=List.mem_map.1 hc
   exact (K_ hx (hg b hb)).ok) (by rw [List.length_append,List.length_map];omega)]
  simp [meets]
theorem RF.lt {f:List Cl} (h:RF f):f.length<2147483648:=by have:=h.len;omega
theorem zM (hk:Fu k) {f g:List Cl} (hf:RF f) (hg:RF g) (ret:List Cl×Int→Option S):jN k f g ret=ret (dj f g):=by
 have l1:=hf.len;have l2:=hg.len
 simp only [jN,Gl,af hk,gD hk hf.2 hf.lt,gD hk hg.2 hg.lt,hf.right,hg.right,Bool.not_true,ad]
 have hb:f.length*g.length≤64*64:=Nat.mul_le_mul l1 l2
 have:=abP hk ret (fun c hc=>hf.rc hc) (fun c hc=>hg.rc hc) (by omega) (by omega) f [] k [] rfl (by have:4294967296≤k:=hk;omega) (fun c hc=>by cases hc) (by simp;omega)
 simpa [dj] using this
theorem ae_ (hk:Fu k) {f g:List Cl} (hf:RF f) (hg:RF g) (ret:List Cl×Int→Option S):xq k f g ret=ret (b8 f g):=by
 have l1:=hf.len;have l2:=hg.len
 simp only [xq,Qm,af hk,gD hk hf.2 hf.lt,gD hk hg.2 hg.lt,hf.right,hg.right,Bool.not_true,ad,List.nil_append]
 rw [aO (by simp;omega),aO (by omega),nM hk (eY hf.2 hg.2) (by rw [List.length_append];omega)]
 rfl
end Go.Proofs.YtapmagaejigpnaaGreatDoor
namespace Go.Proofs.YtapmagaejigpnaaGreatDoor
open Go PI
set_option linter.unusedVariables false
set_option linter.unusedSimpArgs false
set_option maxRecDepth 20000
variable {S:Type} {k:Nat}
theorem u0:U32 0:=⟨by decide,by decide⟩
def nl (i:Int):Cl:=⟨0,ez 0 i⟩
def pl (i:Int):Cl:=⟨ez 0 i,0⟩
theorem DF (i:Int):RC (nl i):=⟨⟨by show (0:Int)≤0;decide,by show (0:Int)<16777216;decide⟩,withS_lt⟩
theorem DP (i:Int):RC (pl i):=⟨withS_lt,⟨by show (0:Int)≤0;decide,by show (0:Int)<16777216;decide⟩⟩
def p7 (c:Cl):List Cl:=(fi c.pos).map nl++(fi c.neg).map pl
def nz (c:Cl):List Cl×Int:=bk (p7 c)
theorem yG (s:Int):(fi s).length≤24:=by unfold fi;rw [dm];exact f8 _
theorem Ln {c d:Cl} (h:d∈p7 c):RC d:=by
 rcases List.mem_append.1 h with h|h
 ·obtain ⟨i,_,rfl⟩:=List.mem_map.1 h;exact DF i
 ·obtain ⟨i,_,rfl⟩:=List.mem_map.1 h;exact DP i
theorem adh (c:Cl):(p7 c).length≤48:=by
 have h1:=yG c.pos;have h2:=yG c.neg
 unfold p7;rw [List.length_append,List.length_map,List.length_map];omega
theorem Jq {l:List Cl} (h: ∀c∈l,RC c) (hl:l.length≤64):(bk l).2=0:=by
 have:=acC l
 unfold bk
 rw [if_pos (List.all_eq_true.2 fun c hc=>(zD (h c hc).ok).2 (h c hc)),if_neg (by omega)]
theorem Lo (c:Cl):(nz c).2=0:=Jq (fun d hd=>Ln hd) (by have:=adh c;omega)
theorem yM (c:Cl):RF (nz c).1:=pT (fun d hd=>(Ln hd).ok) (Lo c)
theorem abk (hk:Fu k) (ret:List Cl×Int→Option S) {l:List Int} (hlen:l.length≤64):
  ∀ (r p:List Int) (m:Nat) (o:List Cl),l=p++r→r.length<m→am o→o.length+r.length<1073741824→mY k ret l m (p.length:Int) o=ret (bk (o++r.map pl)):=by
 intro r
 induction r with
 |nil=>
  intro p m o h hm hok ho
  obtain ⟨m,rfl,hm'⟩:=ak hm
  simp only [List.length_nil] at ho
  simp only [mY,vA,aA h,ad,af hk,kx hk hok (show o.length<2147483648 by omega),List.map_nil,List.append_nil]
 |cons x r ih=>
  intro p m o h hm hok ho
  obtain ⟨m,rfl,hm'⟩:=ak hm
  obtain ⟨e1,e2,e3,e4⟩:=az h (by omega)
  simp only [List.length_cons] at ho
  simp only [mY,vA,e1,ae,e2,Option.bind_some,af hk,uE hk u0,e3]
  rw [aO (by simp;omega),ih (p++[x]) m _ e4 hm' (eY hok fun c hc=>by simp at hc;subst hc;exact (DP x).ok) (by simp;omega)]
  simp [pl]
theorem abj (hk:Fu k) (ret:List Cl×Int→Option S) {c:Cl} (hc:aU c) {l:List Int} (hlen:l.length≤64):
  ∀ (r p:List Int) (m:Nat) (o:List Cl),l=p++r→r.length<m→am o→o.length+r.length<1000000→pe k ret c l m (p.length:Int) o=ret (bk (o++r.map nl++(fi c.neg).map pl)):=by
 intro r
 induction r with
 |nil=>
  intro p m o h hm hok ho
  obtain ⟨m,rfl,hm'⟩:=ak hm
  simp only [List.length_nil] at ho
  have hl:=yG c.neg
  have hk':4294967296≤k:=hk
  simp only [pe,rh,aA h,ad,ui,K7 hc.2,List.map_nil,List.append_nil]
  exact abk hk ret (by omega) (fi c.neg) [] k o rfl (by omega) hok (by omega)
 |cons x r ih=>
  intro p m o h hm hok ho
  obtain ⟨m,rfl,hm'⟩:=ak hm
  obtain ⟨e1,e2,e3,e4⟩:=az h (by omega)
  simp only [List.length_cons] at ho
  simp only [pe,rh,e1,ae,e2,Option.bind_some,af hk,uE hk u0,e3]
  rw [aO (by simp;omega),ih (p++[x]) m _ e4 hm' (eY hok fun c hc=>by simp at hc;subst hc;exact (DF x).ok) (by simp;omega)]
  simp [nl]
theorem ae2 (hk:Fu k) {c:Cl} (hc:aU c) (ret:List Cl×Int→Option S):xd k c ret=ret (nz c):=by
 have hl:=yG c.pos
 simp only [xd,F0,ui,K7 hc.1]
 have:=abj hk ret hc (l:=fi c.pos) (by omega) (fi c.pos) [] k [] rfl (by have:4294967296≤k:=hk;omega) (fun c hc=>by cases hc) (by simp;omega)
 simpa [nz,p7] using this
def jx (c:Cl) (i:Nat):List Cl:=(if bN c.pos i then [nl i] else [])++(if bN c.neg i then [pl i] else [])
def jy (c:Cl) (n:Nat):List Cl:=(List.range n).flatMap (jx c)
theorem agl (c:Cl) (i:Nat):(jx c i).length≤2:=by unfold jx;split<;>split<;>simp
theorem agm {c d:Cl} {i:Nat} (h:d∈jx c i):RC d:=by
 unfold jx at h
 rcases List.mem_append.1 h with h|h<;>(split at h<;>simp at h)
 ·subst h;exact DF _
 ·subst h;exact DP _
theorem Rf (c:Cl) (n:Nat):jy c (n+1)=jy c n++jx c n:=by simp [jy,List.range_succ]
theorem Re (c:Cl) (n:Nat):(jy c n).length≤2*n:=by
 induction n with
 |zero=>simp [jy]
 |succ n ih=>rw [Rf,List.length_append];have:=agl c n;omega
theorem agn {c d:Cl} {n:Nat} (h:d∈jy c n):RC d:=by
 obtain ⟨i,_,hi⟩:=List.mem_flatMap.1 h;exact agm hi
theorem afD (hk:Fu k) (i:Nat) (hi:i<24) (ret:Int→Option S):iR k [(i:Int)] ret=ret (ez 0 i):=by
 have:=qG hk [i] (by simp) (by simpa using hi) ret
 have e:ints [i]=[(i:Int)]:=by simp [ints]
 rw [e] at this
 rw [this,uZ,if_pos (by omega)]
 simp [cm]
theorem ab3 (hk:Fu k) (ret:List Cl→Option S) {c:Cl} (hc:aU c): ∀ (d i m:Nat),i+d=24→d<m→pw k ret c m (jy c i) (i:Int)=ret (bk (jy c 24)).1:=by
 intro d
 induction d with
 |zero=>
  intro i m e hm
  obtain ⟨m,rfl,hm'⟩:=ak hm
  have:i=24:=by omega
  subst this
  have hlen:=Re c 24
  simp only [pw,vV,aS,af hk,nM hk (show am (jy c 24) from fun d hd=>(agn hd).ok) (by omega)]
  rw [if_neg (by omega)]
 |succ d ih=>
  intro i m e hm
  obtain ⟨m,rfl,hm'⟩:=ak hm
  have e2:(i:Int)+1=((i+1:Nat):Int):=by simp
  have hlen:=Re c i
  simp only [pw,vV,af hk,iy hk hc.1,iy hk hc.2,cx,decide_eq_true_eq,afD hk i (by omega)]
  rw [if_pos (by omega),dB (by omega) (by omega),e2]
  have hi:=ih (i+1) m (by omega) (by omega)
  rw [Rf] at hi
  cases hp:bN c.pos (i:Int)<;>cases hn:bN c.neg (i:Int)<;>simp only [jx,hp,hn,if_true,Bool.false_eq_true,if_false,List.append_nil,List.nil_append,List.append_assoc,List.singleton_append] at hi ⊢
  ·exact hi
  ·rw [aO (by simp;omega)];exact hi
  ·rw [aO (by simp;omega)];exact hi
  ·rw [aO (by simp;omega),aO (by simp;omega)];exact hi
theorem afy (hk:Fu k) {c:Cl} (hc:aU c) (ret:List Cl→Option S):xu k c ret=ret (nz c).1:=by
 simp only [xu,Gp]
 have:=ab3 hk ret hc 24 0 k (by omega) (by have:4294967296≤k:=hk;omega)
 refine Eq.trans this ?_
 congr 2
 refine ab_ fun d=> ?_
 unfold jy p7
 rw [List.mem_flatMap,List.mem_append,List.mem_map,List.mem_map]
 have hs: ∀ (s:Int) (x:Int),x∈fi s↔ ∃i:Nat,i<24∧s.toNat.testBit i=true∧x=i:=by
  intro s x
  unfold fi ints
  rw [List.mem_map]
  constructor
  ·rintro ⟨j,hj,rfl⟩;have:=mem_bitsN.1 hj;exact ⟨j,this.1,this.2,rfl⟩
  ·rintro ⟨j,h1,h2,rfl⟩;exact ⟨j,mem_bitsN.2 ⟨h1,h2⟩,rfl⟩
 have hh: ∀ (s:Int) (i:Nat),i<24→bN s (i:Int)=s.toNat.testBit i:=by
  intro s i hi;unfold bN;rw [decide_eq_true (by omega),Bool.true_and];rfl
 constructor
 ·rintro ⟨i,hi,hd⟩
  have hi':i<24:=by simpa using hi
  unfold jx at hd
  rw [hh _ _ hi',hh _ _ hi'] at hd
  rcases List.mem_append.1 hd with h|h
  ·split at h
   ·next hb=>simp at h;exact .inl ⟨i,(hs _ _).2 ⟨i,hi',hb,rfl⟩,h.symm⟩
   ·simp at h
  ·split at h
   ·next hb=>simp at h;exact .inr ⟨i,(hs _ _).2 ⟨i,hi',hb,rfl⟩,h.symm⟩
   ·simp at h
 ·rintro (⟨x,hx,rfl⟩|⟨x,hx,rfl⟩)
  ·obtain ⟨i,h1,h2,rfl⟩:=(hs _ _).1 hx
   refine ⟨i,by simpa using h1, ?_⟩
   unfold jx;rw [hh _ _ h1,if_pos h2];simp
  ·obtain ⟨i,h1,h2,rfl⟩:=(hs _ _).1 hx
   refine ⟨i,by simpa using h1, ?_⟩
   unfold jx;rw [hh _ _ h1,hh _ _ h1,if_pos h2];simp
def aZ (step:List Cl→Cl→List Cl×Int):List Cl→List Cl→List Cl×Int
 |h,[]=>(h,0)
 |h,c::r=>if (step h c).2=0 then aZ step (step h c).1 r else ([],(step h c).2)
def km (h:List Cl) (c:Cl):List Cl×Int:=dj h (nz c).1
def cY (f:List Cl):List Cl×Int:=aZ km [⟨0,0⟩] f
theorem acx {f g:List Cl} (h:(dj f g).2≠0):(dj f g).1=[]:=C_ h
theorem ahm {f g:List Cl} (h:(b8 f g).2≠0):(b8 f g).1=[]:=C_ h
theorem ID {step:List Cl→Cl→List Cl×Int} (hs: ∀h c,RF h→(step h c).2=0→RF (step h c).1): ∀ {r h:List Cl},RF h→(aZ step h r).2=0→RF (aZ step h r).1:=by
 intro r
 induction r with
 |nil=>intro h hh _;exact hh
 |cons c r ih=>
  intro h hh he
  unfold aZ at he ⊢
  split
  ·next h0=>rw [if_pos h0] at he;exact ih (hs h c hh h0) he
  ·next h0=>rw [if_neg h0] at he;exact absurd he h0
theorem ahb {step:List Cl→Cl→List Cl×Int}: ∀ {r h:List Cl},(aZ step h r).2≠0→(aZ step h r).1=[]:=by
 intro r
 induction r with
 |nil=>intro h he;exact absurd rfl he
 |cons c r ih=>
  intro h he
  unfold aZ at he ⊢
  split
  ·next h0=>rw [if_pos h0] at he;exact ih he
  ·rfl
theorem DH (h:List Cl) (c:Cl) (hh:RF h) (h0:(km h c).2=0):RF (km h c).1:=kh hh.2 (yM c).2 h0
theorem jl {f:List Cl} (h:(cY f).2=0):RF (cY f).1:=ID DH (gz nJ) h
theorem aY (n:Int):(n==0)=decide (n=0):=by rw [Bool.eq_iff_iff];simp
theorem ae1 (hk:Fu k) {h:List Cl} {c:Cl} (hh:RF h) (hc:aU c) (ret:List Cl×Int→Option S):xb k h c ret=ret (km h c):=by
 have:=hh.len;have:=(yM c).len
 simp only [xb,PY,af hk,ae2 hk hc,Lo,uJ hk hh.2 (yM c).2 (show h.length<32768 by omega) (show (nz c).1.length<32768 by omega)]
 rfl
theorem aa4 (hk:Fu k) (ret:List Cl×Int→Option S) {l:List Cl} (hl:am l) (hlen:l.length<2147483648):
  ∀ (r p:List Cl) (m:Nat) (h:List Cl),l=p++r→r.length<m→RF h→pc k ret l m h (p.length:Int)=ret (aZ km h r):=by
 intro r
 induction r with
 |nil=>
  intro p m h e hm hh
  obtain ⟨m,rfl,hm'⟩:=ak hm
  simp only [pc,vv,aA e,ad];rfl
 |cons x r ih=>
  intro p m h e hm hh
  obtain ⟨m,rfl,hm'⟩:=ak hm
  obtain ⟨e1,e2,e3,e4⟩:=az e (by omega)
  have hx:aU x:=hl x (by rw [e];simp)
  simp only [pc,vv,e1,ae,e2,Option.bind_some,af hk,ae1 hk hh hx,aY,e3]
  by_cases h0:(km h x).2=0
  ·rw [decide_eq_true h0,Bool.not_true,ad,ih (p++[x]) m _ e4 hm' (DH h x hh h0),aZ,if_pos h0]
  ·rw [decide_eq_false h0,Bool.not_false,ae,aZ,if_neg h0]
theorem OD (hk:Fu k) {f:List Cl} (hf:am f) (hlen:f.length<2147483648) (ret:List Cl×Int→Option S):ol k f ret=ret (cY f):=by
 simp only [ol,PX,af hk,sx,FU,BT,FX]
 exact aa4 hk ret hf hlen f [] k _ rfl (by have:4294967296≤k:=hk;omega) (gz nJ)
theorem aeL (hk:Fu k) {f:List Cl} (hf:am f) (hlen:f.length<2147483648) (ret:List Cl×Int→Option S):w8 k f ret=ret (if bn f then cY f else ([],2)):=by
 simp only [w8,PQ,af hk,E5 hk (l:=[f]) (by simpa using ⟨hf,hlen⟩) (by simp),OD hk hf hlen]
 have:[f].all bn=bn f:=by simp
 rw [this]
 by_cases h:bn f=true
 ·rw [if_pos h,if_pos h];rfl
 ·rw [if_neg h,if_neg h];rfl
theorem abS (hk:Fu k) (ret:List Cl×Int→Option S) {l:List Cl} (hl:am l) (hlen:l.length<2147483648):
  ∀ (r p:List Cl) (m:Nat) (h:List Cl) (e:Int),l=p++r→r.length<m→(e=0→RF h)→(e≠0→h=[])→pr k ret l m h e (p.length:Int)=ret (if e=0 then aZ km h r else ([],e)):=by
 intro r
 induction r with
 |nil=>
  intro p m h e el hm h1 h2
  obtain ⟨m,rfl,hm'⟩:=ak hm
  simp only [pr,vT,aA el,ad]
  by_cases h0:e=0
  ·rw [if_pos h0,h0];rfl
  ·rw [if_neg h0,h2 h0]
 |cons x r ih=>
  intro p m h e el hm h1 h2
  obtain ⟨m,rfl,hm'⟩:=ak hm
  obtain ⟨e1,e2,e3,e4⟩:=az el (by omega)
  have hx:aU x:=hl x (by rw [el];simp)
  simp only [pr,vT,e1,ae,aY,e3,e2,Option.bind_some,af hk,afy hk hx]
  by_cases h0:e=0
  ·have hh:=h1 h0
   rw [decide_eq_true h0,ae,zM hk hh (yM x),if_pos h0]
   have:=ih (p++[x]) m (km h x).1 (km h x).2 e4 hm' (fun h0=>DH h x hh h0) (fun h0=>acx h0)
   exact this
  ·rw [decide_eq_false h0,ad,if_neg h0,h2 h0]
theorem OS (hk:Fu k) {f:List Cl} (hf:am f) (hlen:f.length<2147483648) (ret:List Cl×Int→Option S):oy k f ret=ret (if bn f then cY f else ([],2)):=by
 simp only [oy,Gm,af hk,gD hk hf hlen]
 by_cases h:bn f=true
 ·rw [h,Bool.not_true,ad,if_pos rfl]
  have:=abS hk ret hf hlen f [] k [⟨0,0⟩] 0 rfl (by have:4294967296≤k:=hk;omega) (fun _=>gz nJ) (fun h=>absurd rfl h)
  rw [if_pos rfl] at this
  exact this
 ·rw [Bool.not_eq_true] at h
  rw [h,Bool.not_false,ae,if_neg (by decide)]
end Go.Proofs.YtapmagaejigpnaaGreatDoor
namespace Go.Proofs.YtapmagaejigpnaaGreatDoor
open Go PI
set_option linter.unusedVariables false
set_option linter.unusedSimpArgs false
set_option maxRecDepth 20000
variable {S:Type} {k:Nat}
def bU (i:Int) (c:Cl):Cl:=⟨dr c.pos i,dr c.neg i⟩
theorem jZ (i:Int) (c:Cl):RC (bU i c):=⟨withoutS_lt,withoutS_lt⟩
def d3 (i:Int) (r:List Cl) (c:Cl):List Cl×Int:=if bN c.pos i then dj [bU i c] r else ([bU i c],0)
def eZ (i:Int) (r:List Cl) (c:Cl) (g:List Cl):List Cl×Int:=if bN c.neg i then if (cY r).2=0 then dj g (cY r).1 else ([],(cY r).2) else (g,0)
def dL (i:Int) (r h:List Cl) (c:Cl):List Cl×Int:=
 if (d3 i r c).2=0 then if (eZ i r c (d3 i r c).1).2=0 then b8 h (eZ i r c (d3 i r c).1).1 else ([],(eZ i r c (d3 i r c).1).2) else ([],(d3 i r c).2)
def kZ (i:Int):Bool:=decide (0≤i∧i<24)
def io (f:List Cl) (i:Int) (r:List Cl):List Cl×Int:=if bn f&&bn r&&kZ i then aZ (dL i r) [] f else ([],2)
theorem adp {i:Int} {r:List Cl} {c:Cl} (hr:RF r) (h:(d3 i r c).2=0):RF (d3 i r c).1:=by
 unfold d3 at h ⊢
 split
 ·next hh=>rw [if_pos hh] at h;exact kh (gz (jZ i c)).2 hr.2 h
 ·exact gz (jZ i c)
theorem adr {i:Int} {r g:List Cl} {c:Cl} (hg:RF g) (h:(eZ i r c g).2=0):RF (eZ i r c g).1:=by
 unfold eZ at h ⊢
 split
 ·next hh=>
  rw [if_pos hh] at h
  split
  ·next hn=>rw [if_pos hn] at h;exact kh hg.2 (jl hn).2 h
  ·next hn=>rw [if_neg hn] at h;exact absurd h hn
 ·exact hg
theorem Lr {i:Int} {r:List Cl} (hr:RF r) (h:List Cl) (c:Cl) (hh:RF h) (h0:(dL i r h c).2=0):RF (dL i r h c).1:=by
 unfold dL at h0 ⊢
 split
 ·next ha=>
  rw [if_pos ha] at h0
  have hA:=adp hr ha
  split
  ·next hb=>rw [if_pos hb] at h0;exact I1 hh.2 (adr hA hb).2 h0
  ·next hb=>rw [if_neg hb] at h0;exact absurd h0 hb
 ·next ha=>rw [if_neg ha] at h0;exact absurd h0 ha
theorem aeB (hk:Fu k) {i:Int} {r h:List Cl} {c:Cl} (hr:RF r) (hh:RF h) (hc:aU c) (ret:List Cl×Int→Option S):w_ k h c i r ret=ret (dL i r h c):=by
 have l1:=hr.len;have l2:=hh.len
 have hg:=gz (jZ i c)
 simp only [w_,PS,af hk,uF hk hc.1,uF hk hc.2,qC hk hc.1,qC hk hc.2,uJ hk hg.2 hr.2 (show [bU i c].length<32768 by simp) (show r.length<32768 by omega),OD hk hr.2 hr.lt,aY,cx,decide_eq_true_eq,Bool.not_eq_true',decide_eq_false_iff_not]
 have e: ∀ (f:List Cl×Int→Option S),jJ k [Cl.mk (dr c.pos i) (dr c.neg i)] r f=f (dj [bU i c] r):=fun f=>uJ hk hg.2 hr.2 (by simp) (by omega) f
 simp only [e]
 unfold dL d3 eZ
 by_cases hp:bN c.pos i=true
 ·simp only [hp,if_true]
  by_cases h1:(dj [bU i c] r).2=0
  ·have hA:RF (dj [bU i c] r).1:=kh hg.2 hr.2 h1
   have l3:=hA.len
   simp only [h1,not_true,if_false,if_true]
   by_cases hn:bN c.neg i=true
   ·simp only [hn,if_true]
    by_cases h2:(cY r).2=0
    ·have hN:=jl h2
     have l4:=hN.len
     simp only [h2,not_true,if_false,if_true]
     rw [uJ hk hA.2 hN.2 (by omega) (by omega)]
     by_cases h3:(dj (dj [bU i c] r).1 (cY r).1).2=0
     ·have hB:=kh hA.2 hN.2 h3
      have l5:=hB.len
      simp only [h3,not_true,if_false,if_true]
      rw [zK hk hh.2 hB.2 (by omega) (by omega)]
     ·simp only [h3,not_false_eq_true,if_true,if_false]
    ·simp only [h2,not_false_eq_true,if_true,if_false]
   ·simp only [hn,Bool.false_eq_true,if_false,if_true]
    rw [zK hk hh.2 hA.2 (by omega) (by omega)]
  ·simp only [h1,not_false_eq_true,if_true,if_false]
 ·simp only [hp,Bool.false_eq_true,if_false,if_true]
  by_cases hn:bN c.neg i=true
  ·simp only [hn,if_true]
   by_cases h2:(cY r).2=0
   ·have hN:=jl h2
    have l4:=hN.len
    simp only [h2,not_true,if_false,if_true]
    have e2: ∀ (f:List Cl×Int→Option S),jJ k [Cl.mk (dr c.pos i) (dr c.neg i)] (cY r).1 f=f (dj [bU i c] (cY r).1):=fun f=>uJ hk hg.2 hN.2 (by simp) (by omega) f
    rw [e2]
    by_cases h3:(dj [bU i c] (cY r).1).2=0
    ·have hB:=kh hg.2 hN.2 h3
     have l5:=hB.len
     simp only [h3,not_true,if_false,if_true]
     rw [zK hk hh.2 hB.2 (by omega) (by omega)]
    ·simp only [h3,not_false_eq_true,if_true,if_false]
   ·simp only [h2,not_false_eq_true,if_true,if_false]
  ·simp only [hn,Bool.false_eq_true,if_false,if_true]
   have:=zK hk hh.2 hg.2 (by omega) (by simp) ret
   exact this
theorem aa5 (hk:Fu k) (ret:List Cl×Int→Option S) {i:Int} {q:List Cl} (hq:RF q) {l:List Cl} (hl:am l) (hlen:l.length<2147483648):
  ∀ (r p:List Cl) (m:Nat) (h:List Cl),l=p++r→r.length<m→RF h→pb k ret i q l m h (p.length:Int)=ret (aZ (dL i q) h r):=by
 intro r
 induction r with
 |nil=>
  intro p m h e hm hh
  obtain ⟨m,rfl,hm'⟩:=ak hm
  simp only [pb,vu,aA e,ad];rfl
 |cons x r ih=>
  intro p m h e hm hh
  obtain ⟨m,rfl,hm'⟩:=ak hm
  obtain ⟨e1,e2,e3,e4⟩:=az e (by omega)
  have hx:aU x:=hl x (by rw [e];simp)
  simp only [pb,vu,e1,ae,e2,Option.bind_some,af hk,aeB hk hq hh hx,aY,e3]
  by_cases h0:(dL i q h x).2=0
  ·rw [decide_eq_true h0,Bool.not_true,ad,ih (p++[x]) m _ e4 hm' (Lr hq h x hh h0),aZ,if_pos h0]
  ·rw [decide_eq_false h0,Bool.not_false,ae,aZ,if_neg h0]
theorem aer (hk:Fu k) (i:Int) (ret:List Cl×Int→Option S):w7 k i ret=ret (if kZ i then ([⟨ez 0 i,0⟩],0) else ([],2)):=by
 simp only [w7,PN,af hk,uE hk u0]
 unfold kZ
 by_cases h:0≤i∧i<24
 ·have:ez 0 i=((2^i.toNat:Nat):Int):=by rw [uZ,if_pos h]
  rw [this,BC hk _ _ (by omega),decide_eq_true h,if_pos rfl];exact ad _ _
 ·have:ez 0 i=0:=by rw [uZ,if_neg h]
  rw [this,BB hk,decide_eq_false h,if_neg (by decide)];exact ae _ _
theorem aeM (hk:Fu k) {f r:List Cl} {i:Int} (hf:am f) (hr:am r) (h1:f.length<2147483648) (h2:r.length<2147483648) (ret:List Cl×Int→Option S):w9 k f i r ret=ret (io f i r):=by
 simp only [w9,PR,af hk,E5 hk (l:=[f,r]) (by simpa using ⟨⟨hf,h1⟩,hr,h2⟩) (by simp),aer hk]
 have e:[f,r].all bn=(bn f&&bn r):=by simp
 unfold io
 by_cases ha:(bn f&&bn r)=true
 ·rw [e,if_pos ha,ha,Bool.true_and]
  rw [show ((0:Int)==0)=true from rfl,Bool.not_true,ad]
  cases hd:kZ i with
  |true=>
   rw [if_pos rfl,if_pos rfl]
   rw [show ((0:Int)==0)=true from rfl,Bool.not_true,ad]
   simp only [sz,FV,BS,FW]
   have hr':=(fV hr).1 (by simp only [Bool.and_eq_true] at ha;exact ha.2)
   exact aa5 hk ret hr' hf h1 f [] k [] rfl (by have:4294967296≤k:=hk;omega) uA
  |false=>
   have e1: ∀ (x y:List Cl×Int),(if false=true then x else y)=y:=fun x y=>if_neg (by decide)
   rw [e1,e1];exact ae _ _
 ·rw [Bool.not_eq_true] at ha
  have e1: ∀ (x y:List Cl×Int),(if false=true then x else y)=y:=fun x y=>if_neg (by decide)
  rw [e,ha,if_neg (by decide),Bool.false_and,e1];exact ae _ _
theorem adv (hk:Fu k) (ret:List Cl×Int→Option S) (rec0:List Cl→Int→Option S) (f:List Cl) (i:Int) (r:List Cl) {h:List Cl} {v:Int} {g:List Cl} {e:Int} (hh:RF h) (hg:e=0→RF g):
  pu k ret rec0 f i r h v k g e=if e=0 then if (b8 h g).2=0 then rec0 (b8 h g).1 (IntKind.wrap .i64 (v+1)) else ret ([],(b8 h g).2) else ret ([],e):=by
 obtain ⟨q,hq⟩: ∃q,k=q+1:=⟨k-1,by have:4294967296≤k:=hk;omega⟩
 have: ∀j,j=q+1→pu k ret rec0 f i r h v j g e=vU k ret f i r h v rec0 g e:=by rintro j rfl;rfl
 rw [this k hq]
 simp only [vU,aY]
 by_cases h0:e=0
 ·rw [decide_eq_true h0,ae,if_pos h0,af hk,ae_ hk hh (hg h0)]
  by_cases h1:(b8 h g).2=0
  ·rw [decide_eq_true h1,if_pos h1];exact ad _ _
  ·rw [decide_eq_false h1,if_neg h1];exact ae _ _
 ·rw [decide_eq_false h0,ad,if_neg h0];exact ae _ _
theorem abT (hk:Fu k) (ret:List Cl×Int→Option S) {i:Int} {q:List Cl} (hq:RF q) {l:List Cl} (hl:am l) (hlen:l.length<2147483648):
  ∀ (r p:List Cl) (m:Nat) (h:List Cl),l=p++r→r.length<m→RF h→lH k ret l i q m h (p.length:Int)=ret (aZ (dL i q) h r):=by
 intro r
 induction r with
 |nil=>
  intro p m h e hm hh
  obtain ⟨m,rfl,hm'⟩:=ak hm
  simp only [lH,rp,aA e,ad];rfl
 |cons x r ih=>
  intro p m h e hm hh
  obtain ⟨m,rfl,hm'⟩:=ak hm
  obtain ⟨e1,e2,e3,e4⟩:=az e (by omega)
  have hx:aU x:=hl x (by rw [e];simp)
  have hg:=gz (jZ i x)
  have key: ∀ (g:List Cl) (e:Int),(e=0→RF g)→(dL i q h x=if e=0 then b8 h g else ([],e))→pu k ret (lH k ret l i q m) l i q h (p.length:Int) k g e=ret (aZ (dL i q) h (x::r)):=by
   intro g e hge hput
   rw [adv hk _ _ _ _ _ hh hge,aZ,hput]
   by_cases h0:e=0
   ·rw [if_pos h0,if_pos h0]
    by_cases h1:(b8 h g).2=0
    ·rw [if_pos h1,if_pos h1,e3]
     exact ih (p++[x]) m _ e4 hm' (I1 hh.2 (hge h0).2 h1)
    ·rw [if_neg h1,if_neg h1]
   ·rw [if_neg h0,if_neg h0,if_neg h0]
  have em: ∀ (f:List Cl×Int→Option S),jN k [Cl.mk (dr x.pos i) (dr x.neg i)] q f=f (dj [bU i x] q):=fun f=>zM hk hg hq f
  simp only [lH,rp,e1,ae,e2,Option.bind_some,af hk,zO hk hx.1,zO hk hx.2,iy hk hx.1,iy hk hx.2,em,OS hk hq.2 hq.lt,hq.right,if_true,aY]
  cases hp:bN x.pos i with
  |true=>
   rw [ae]
   by_cases h1:(dj [bU i x] q).2=0
   ·have hA:RF (dj [bU i x] q).1:=kh hg.2 hq.2 h1
    rw [decide_eq_true h1,ae]
    cases hn:bN x.neg i with
    |true=>
     rw [ae]
     by_cases h2:(cY q).2=0
     ·rw [decide_eq_true h2,ae,zM hk hA (jl h2)]
      exact key _ _ (fun h0=>kh hA.2 (jl h2).2 h0) (by unfold dL d3 eZ;simp only [hp,hn,h1,h2,if_true])
     ·rw [decide_eq_false h2,ad]
      exact key _ _ (fun h0=>absurd h0 h2) (by unfold dL d3 eZ;simp only [hp,hn,h1,h2,if_true,if_false])
    |false=>
     rw [ad]
     exact key _ _ (fun _=>hA) (by unfold dL d3 eZ;simp only [hp,hn,h1,if_true,if_false,Bool.false_eq_true])
   ·rw [decide_eq_false h1,ad]
    exact key _ _ (fun h0=>absurd h0 h1) (by unfold dL d3;simp only [hp,h1,if_true,if_false])
  |false=>
   rw [ad]
   cases hn:bN x.neg i with
   |true=>
    rw [ae]
    by_cases h2:(cY q).2=0
    ·have em2: ∀ (f:List Cl×Int→Option S),jN k [Cl.mk (dr x.pos i) (dr x.neg i)] (cY q).1 f=f (dj [bU i x] (cY q).1):=fun f=>zM hk hg (jl h2) f
     rw [decide_eq_true h2,ae,em2]
     exact key _ _ (fun h0=>kh hg.2 (jl h2).2 h0) (by unfold dL d3 eZ;simp only [hp,hn,h2,if_true,if_false,Bool.false_eq_true])
    ·rw [decide_eq_false h2,ad]
     exact key _ _ (fun h0=>absurd h0 h2) (by unfold dL d3 eZ;simp only [hp,hn,h2,if_true,if_false,Bool.false_eq_true])
   |false=>
    rw [ad]
    exact key [bU i x] 0 (fun _=>hg) (by unfold dL d3 eZ;simp only [hp,hn,if_true,if_false,Bool.false_eq_true])
theorem afn (hk:Fu k) {f r:List Cl} {i:Int} (hf:am f) (hr:am r) (h1:f.length<2147483648) (h2:r.length<2147483648) (ret:List Cl×Int→Option S):xt k f i r ret=ret (io f i r):=by
 simp only [xt,Gn,af hk,gD hk hf h1,gD hk hr h2,aS]
 unfold io kZ
 cases ha:bn f with
 |false=>rw [Bool.not_false,ae];rfl
 |true=>
  rw [Bool.not_true,ad]
  cases hb:bn r with
  |false=>rw [Bool.not_false,ae];rfl
  |true=>
   rw [Bool.not_true,ad]
   by_cases h3:i<0
   ·rw [if_pos h3,decide_eq_false (by omega)];rfl
   ·by_cases h4:i≥24
    ·rw [if_neg h3,if_pos h4,decide_eq_false (by omega)];rfl
    ·rw [if_neg h3,if_neg h4,decide_eq_true (by omega)]
     exact abT hk ret ((fV hr).1 hb) hf h1 f [] k [] rfl (by have:4294967296≤k:=hk;omega) uA
theorem acj {m n b:Nat}:(dY m n b).1<16777216:=by
 have h1:m&&&M24<16777216:=Nat.lt_of_le_of_lt Nat.and_le_right (by decide)
 have h2:fO m n≤m&&&M24:=Nat.and_le_left
 unfold dY
 split
 ·show fO m n<_;omega
 ·split
  ·show 0<_;omega
  ·split
   ·show 0<_;omega
   ·exact Nat.or_lt_two_pow (n:=24) (by have:(2:Nat)^24=16777216:=(by decide);omega) (by have:(2:Nat)^24=16777216:=(by decide);omega)
theorem Jv (s i b:Int):0≤(cq s i b).1∧(cq s i b).1<16777216:=by
 unfold cq
 split
 ·exact ⟨by decide,by decide⟩
 ·have:= @acj s.toNat i.toNat b.toNat
  exact ⟨Int.natCast_nonneg _,by show (((dY s.toNat i.toNat b.toNat).1:Nat):Int)<_;omega⟩
theorem Js (c:Cl) (i b:Int):RC (cX c i b).1:=by
 unfold cX
 split
 ·split
  ·split
   ·exact ⟨Jv _ _ _,Jv _ _ _⟩
   ·exact nJ
  ·exact nJ
 ·exact nJ
def cJ (i b:Int) (h:List Cl) (c:Cl):List Cl×Int:=(h++[(cX c i b).1],(cX c i b).2)
def a7 (f:List Cl) (i b:Int):List Cl×Int:=if bn f then if (aZ (cJ i b) [] f).2=0 then bk (aZ (cJ i b) [] f).1 else ([],(aZ (cJ i b) [] f).2) else ([],2)
theorem IE {i b:Int}: ∀ {r h:List Cl},am h→am (aZ (cJ i b) h r).1∧(aZ (cJ i b) h r).1.length≤h.length+r.length:=by
 intro r
 induction r with
 |nil=>intro h hh;exact ⟨hh,by show h.length≤_;omega⟩
 |cons c r ih=>
  intro h hh
  unfold aZ
  split
  ·have:=ih (h:=(cJ i b h c).1) (eY hh fun d hd=>by simp at hd;subst hd;exact (Js c i b).ok)
   refine ⟨this.1,Nat.le_trans this.2 ?_⟩
   unfold cJ;simp;omega
  ·exact ⟨fun d hd=>(by cases hd),by show 0≤_;omega⟩
theorem aa3 (hk:Fu k) (ret:List Cl×Int→Option S) {i b:Int} (hi:aF i) (hb:aF b) {l:List Cl} (hl:am l) (hlen:l.length<2147483648):
  ∀ (r p:List Cl) (m:Nat) (h:List Cl),l=p++r→r.length<m→h.length+r.length<4294967296→pd k ret i b l m h (p.length:Int)=ret (aZ (cJ i b) h r):=by
 intro r
 induction r with
 |nil=>
  intro p m h e hm hh
  obtain ⟨m,rfl,hm'⟩:=ak hm
  simp only [pd,vw,aA e,ad];rfl
 |cons x r ih=>
  intro p m h e hm hh
  obtain ⟨m,rfl,hm'⟩:=ak hm
  obtain ⟨e1,e2,e3,e4⟩:=az e (by omega)
  have hx:aU x:=hl x (by rw [e];simp)
  simp only [List.length_cons] at hh
  simp only [pd,vw,e1,ae,e2,Option.bind_some,af hk,BR,PP,aeG hk hx hi hb,aY,e3]
  rw [aO (by simp;omega)]
  show ab (!decide ((cX x i b).2=0)) _ _=_
  by_cases h0:(cX x i b).2=0
  ·rw [decide_eq_true h0,Bool.not_true,ad,ih (p++[x]) m _ e4 hm' (by simp;omega),aZ,if_pos (show (cJ i b h x).2=0 from h0)];rfl
  ·rw [decide_eq_false h0,Bool.not_false,ae,aZ,if_neg (show ¬ (cJ i b h x).2=0 from h0)];rfl
theorem uH (hk:Fu k) {f:List Cl} {i b:Int} (hf:am f) (hlen:f.length<1073741824) (hi:aF i) (hb:aF b) (ret:List Cl×Int→Option S):kO k f i b ret=ret (a7 f i b):=by
 have hlo:=IE (i:=i) (b:=b) (r:=f) (h:=[]) (fun d hd=>by cases hd)
 simp only [List.length_nil] at hlo
 have hfold: ∀ (g:List Cl×Int→Option S),xa k f [] i b g=g (aZ (cJ i b) [] f):=fun g=>by
  simp only [xa,FY]
  exact aa3 hk g hi hb hf (by omega) f [] k [] rfl (by have:4294967296≤k:=hk;omega) (by simp;omega)
 simp only [kO,PO,af hk,E5 hk (l:=[f]) (by simpa using ⟨hf,by omega⟩) (by simp),sz,FV,hfold,kx hk hlo.1 (show _<2147483648 by omega)]
 have e:[f].all bn=bn f:=by simp
 unfold a7
 cases hr:bn f with
 |true=>
  rw [e,hr,if_pos rfl,if_pos rfl]
  rw [show ((0:Int)==0)=true from rfl,Bool.not_true,ad,aY]
  by_cases h0:(aZ (cJ i b) [] f).2=0
  ·rw [decide_eq_true h0,if_pos h0];exact ad _ _
  ·rw [decide_eq_false h0,if_neg h0];exact ae _ _
 |false=>
  have e1: ∀ (x y:List Cl×Int),(if false=true then x else y)=y:=fun x y=>if_neg (by decide)
  rw [e,hr,if_neg (by decide),e1];exact ae _ _
theorem abL (hk:Fu k) (ret:List Cl×Int→Option S) {i b:Int} (hi:aF i) (hb:aF b) {l:List Cl} (hl:am l) (hlen:l.length<1073741824):
  ∀ (r p:List Cl) (m:Nat) (h:List Cl),l=p++r→r.length<m→am h→h.length+r.length<2147483648→pq k ret l i b m h (p.length:Int)=ret (if (aZ (cJ i b) h r).2=0 then bk (aZ (cJ i b) h r).1 else ([],(aZ (cJ i b) h r).2)):=by
 intro r
 induction r with
 |nil=>
  intro p m h e hm hok hh
  obtain ⟨m,rfl,hm'⟩:=ak hm
  simp only [List.length_nil] at hh
  simp only [pq,vR,aA e,ad,af hk,nM hk hok (show h.length<2147483648 by omega)]
  rw [aZ,if_pos rfl]
 |cons x r ih=>
  intro p m h e hm hok hh
  obtain ⟨m,rfl,hm'⟩:=ak hm
  obtain ⟨e1,e2,e3,e4⟩:=az e (by omega)
  have hx:aU x:=hl x (by rw [e];simp)
  simp only [List.length_cons] at hh
  simp only [pq,vR,e1,ae,e2,Option.bind_some,af hk,ae9 hk hx hi hb,aY,e3]
  by_cases h0:(cX x i b).2=0
  ·rw [decide_eq_true h0,Bool.not_true,ad,aO (by simp;omega),ih (p++[x]) m _ e4 hm' (eY hok fun d hd=>by simp at hd;subst hd;exact (Js x i b).ok) (by simp;omega),aZ,if_pos (show (cJ i b h x).2=0 from h0)];rfl
  ·rw [decide_eq_false h0,Bool.not_false,ae,aZ,if_neg (show ¬ (cJ i b h x).2=0 from h0)]
   rw [if_neg (show ¬ (([]:List Cl),(cJ i b h x).2).2=0 from h0)];rfl
theorem uK (hk:Fu k) {f:List Cl} {i b:Int} (hf:am f) (hlen:f.length<1073741824) (hi:aF i) (hb:aF b) (ret:List Cl×Int→Option S):jM k f i b ret=ret (a7 f i b):=by
 simp only [jM,Gk,af hk,gD hk hf (show f.length<2147483648 by omega)]
 unfold a7
 cases hr:bn f with
 |true=>
  rw [Bool.not_true,ad,if_pos rfl]
  exact abL hk ret hi hb hf hlen f [] k [] rfl (by have:4294967296≤k:=hk;omega) (fun d hd=>by cases hd) (by simp;omega)
 |false=>
  rw [Bool.not_false,ae,if_neg (by decide)]
theorem gx {f:List Cl} {i b:Int} (h:(a7 f i b).2=0):RF (a7 f i b).1:=by
 unfold a7 at h ⊢
 split
 ·next hr=>
  rw [if_pos hr] at h
  split
  ·next h0=>
   rw [if_pos h0] at h
   exact pT (IE fun d hd=>by cases hd).1 h
  ·next h0=>rw [if_neg h0] at h;exact absurd h h0
 ·next hr=>rw [if_neg hr] at h;exact absurd h (by decide)
theorem ahn {f:List Cl} {i b:Int} (h:(a7 f i b).2≠0):(a7 f i b).1=[]:=by
 unfold a7 at h ⊢
 split
 ·next hr=>
  rw [if_pos hr] at h
  split
  ·next h0=>rw [if_pos h0] at h;exact C_ h
  ·rfl
 ·rfl
end Go.Proofs.YtapmagaejigpnaaGreatDoor
namespace Go.Proofs.YtapmagaejigpnaaGreatDoor
open Go PI
set_option linter.unusedVariables false
set_option linter.unusedSimpArgs false
set_option maxRecDepth 20000
variable {S:Type} {k:Nat}
def p8 (s:Nat) (f:List Cl):Nat:=f.foldl (fun s c=>s|||(c.pos.toNat|||c.neg.toNat)) s
def eT (f:List Cl):Nat:=p8 0 f&&&M24
def gW (f:List Cl):Int:=((eT f:Nat):Int)
def fA (f:List Cl) (i:Nat):Bool:=f.any fun c=>c.pos.toNat.testBit i||c.neg.toNat.testBit i
theorem adi (i:Nat): ∀ {f:List Cl} {s:Nat},(p8 s f).testBit i=(s.testBit i||fA f i):=by
 intro f
 induction f with
 |nil=>intro s;simp [p8,fA]
 |cons c f ih=>
  intro s
  show (p8 (s|||(c.pos.toNat|||c.neg.toNat)) f).testBit i=_
  rw [ih,Nat.testBit_or,Nat.testBit_or,Bool.or_assoc];simp [fA]
theorem ahA: ∀ {f:List Cl} {s:Nat},am f→s<4294967296→p8 s f<4294967296:=by
 intro f
 induction f with
 |nil=>intro s _ h;exact h
 |cons c f ih=>
  intro s hf h
  have hc:=hf c (by simp)
  have h1:=hc.1.1;have h2:=hc.1.2;have h3:=hc.2.1;have h4:=hc.2.2
  have h32:(2:Nat)^32=4294967296:=by decide
  exact ih (fun d hd=>hf d (by simp [hd])) (Nat.or_lt_two_pow (n:=32) h (Nat.or_lt_two_pow (n:=32) (by omega) (by omega)))
theorem Cb (f:List Cl) (i:Nat):(eT f).testBit i=(fA f i&&decide (i<24)):=by
 rw [eT,Nat.testBit_and,f0,adi,Nat.zero_testBit,Bool.false_or]
theorem Ca (f:List Cl):eT f<16777216:=Nat.lt_of_le_of_lt Nat.and_le_right (by decide)
theorem aaO (hk:Fu k) (ret:Int→Option S) {l:List Cl} (hl:am l) (hlen:l.length<4294967296):
  ∀ (r p:List Cl) (m:Nat) (s:Nat),l=p++r→r.length<m→s<4294967296→pa k ret l m (s:Int) (p.length:Int)=ret (((p8 s r&&&M24:Nat):Int)):=by
 intro r
 induction r with
 |nil=>
  intro p m s e hm hs
  obtain ⟨m,rfl,hm'⟩:=ak hm
  simp only [pa,vt,aA e,ad,af hk,uF hk (U32.of hs)]
  unfold dr
  rw [if_neg (by omega)];rfl
 |cons x r ih=>
  intro p m s e hm hs
  obtain ⟨m,rfl,hm'⟩:=ak hm
  obtain ⟨e1,e2,e3,e4⟩:=az e (by omega)
  have hx:aU x:=hl x (by rw [e];simp)
  have ho:U32 (dK x.pos x.neg):=DM hx.1 hx.2
  have hq:s|||(x.pos.toNat|||x.neg.toNat)<4294967296:=by
   have h1:=hx.1.1;have h2:=hx.1.2;have h3:=hx.2.1;have h4:=hx.2.2
   have h32:(2:Nat)^32=4294967296:=by decide
   exact Nat.or_lt_two_pow (n:=32) hs (Nat.or_lt_two_pow (n:=32) (by omega) (by omega))
  have es:dK (s:Int) (dK x.pos x.neg)=((s|||(x.pos.toNat|||x.neg.toNat):Nat):Int):=by simp [dK]
  simp only [pa,vt,e1,ae,e2,Option.bind_some,p9 hx.1 hx.2,p9 (U32.of hs) ho,e3,es]
  exact ih (p++[x]) m _ e4 hm' hq
theorem E4 (hk:Fu k) {f:List Cl} (hf:am f) (hlen:f.length<4294967296) (ret:Int→Option S):oj k f ret=ret (gW f):=by
 simp only [oj,FT]
 exact aaO hk ret hf hlen f [] k 0 rfl (by have:4294967296≤k:=hk;omega) (by decide)
theorem Zw (s:Int) (i:Nat) (hi:i<24):bN s (i:Int)=s.toNat.testBit i:=by
 unfold bN;rw [decide_eq_true (by omega),Bool.true_and];rfl
theorem abH (hk:Fu k) (ret:Int→Option S) (rec0:List Int→Int→Option S) {l:List Cl} (hl:am l) (hlen:l.length<4294967296) (o:List Int) (ho:o.length≤64) (i:Nat) (hi:i<24):
  ∀ (r p:List Cl) (m:Nat) (b:Bool),l=p++r→r.length<m→m9 k ret rec0 l o (i:Int) m b (p.length:Int)=rec0 (if b||fA r i then o++[(i:Int)] else o) ((i+1:Nat):Int):=by
 intro r
 induction r with
 |nil=>
  intro p m b e hm
  obtain ⟨m,rfl,hm'⟩:=ak hm
  have e2:(i:Int)+1=((i+1:Nat):Int):=by simp
  simp only [m9,vQ,aA e,ad,fA,List.any_nil,Bool.or_false]
  rw [dB (by omega) (by omega),e2]
  cases b with
  |true=>rw [ae,aO (by simp;omega)];rfl
  |false=>rw [ad];rfl
 |cons x r ih=>
  intro p m b e hm
  obtain ⟨m,rfl,hm'⟩:=ak hm
  obtain ⟨e1,e2,e3,e4⟩:=az e (by omega)
  have hx:aU x:=hl x (by rw [e];simp)
  have eu:fA (x::r) i=((x.pos.toNat.testBit i||x.neg.toNat.testBit i)||fA r i):=by simp [fA]
  simp only [m9,vQ,e1,ae,e2,Option.bind_some,af hk,iy hk hx.1,iy hk hx.2,Zw _ _ hi,e3,eu]
  cases b with
  |true=>rw [ae,ih (p++[x]) m true e4 hm'];rfl
  |false=>
   rw [ad]
   cases hp:x.pos.toNat.testBit i with
   |true=>rw [ae,ih (p++[x]) m true e4 hm'];rfl
   |false=>rw [ad,ih (p++[x]) m _ e4 hm'];rfl
def k_ (f:List Cl) (n:Nat):List Nat:=(List.range n).filter (fA f)
theorem abG (hk:Fu k) (ret:Int→Option S) {f:List Cl} (hf:am f) (hlen:f.length<1073741824): ∀ (d i m:Nat),i+d=24→d<m→lE k ret f m (ints (k_ f i)) (i:Int)=ret ((cm (k_ f 24):Nat):Int):=by
 have hl: ∀n,n≤24→(k_ f n).length≤24:=fun n hn=>by
  have:=List.length_filter_le (fA f) (List.range n)
  rw [List.length_range] at this;unfold k_;omega
 intro d
 induction d with
 |zero=>
  intro i m e hm
  obtain ⟨m,rfl,hm'⟩:=ak hm
  have:i=24:=by omega
  subst this
  simp only [lE,rm,aS,af hk]
  rw [if_neg (by omega),qG hk _ (by have:=hl 24 (by omega);omega) fun x hx=>by
   have:=(List.mem_filter.1 hx).1;simpa using this]
 |succ d ih=>
  intro i m e hm
  obtain ⟨m,rfl,hm'⟩:=ak hm
  have hk':4294967296≤k:=hk
  have hli:=hl i (by omega)
  simp only [lE,rm,aS]
  rw [if_pos (by omega)]
  have:=abH hk ret (lE k ret f m) hf (by omega) (ints (k_ f i)) (by rw [dm];omega) i (by omega) f [] k false rfl (by omega)
  simp only [List.length_nil] at this
  rw [show (0:Int)=((0:Nat):Int) from rfl,this,Bool.false_or,←ih (i+1) m (by omega) (by omega)]
  congr 1
  unfold k_
  rw [List.range_succ,List.filter_append]
  cases hu:fA f i<;>simp [ints,hu]
theorem OO (hk:Fu k) {f:List Cl} (hf:am f) (hlen:f.length<1073741824) (ret:Int→Option S):sI k f ret=ret (gW f):=by
 simp only [sI,Gj]
 have:=abG hk ret hf hlen 24 0 k (by omega) (by have:4294967296≤k:=hk;omega)
 refine Eq.trans this ?_
 congr 2
 apply Nat.eq_of_testBit_eq
 intro j
 rw [nO (k_ f 24) (List.nodup_range.filter _),Cb,Bool.eq_iff_iff]
 simp [k_]
 exact ⟨fun h=>⟨h.2,h.1⟩,fun h=>⟨h.2,h.1⟩⟩
def cK (f:List Cl) (d:Int):Bool:=decide (∀i∈bR (eT f),(i:Int)<d)
theorem O0 (hk:Fu k) {f:List Cl} {d:Int} (hf:am f) (hlen:f.length<4294967296) (hd:0≤d) (hd':d<9223372036854775808) (ret:Bool→Option S):kX k f d ret=ret (cK f d):=by
 simp only [kX,Q7,aS,af hk,E4 hk hf hlen]
 by_cases h:d≥24
 ·rw [if_pos h];congr 1
  rw [cK,eq_comm,decide_eq_true_eq]
  intro i hi;have:=(mem_bitsN.1 hi).1;omega
 ·rw [if_neg h]
  obtain ⟨n,rfl⟩: ∃n:Nat,d=n:=⟨d.toNat,by omega⟩
  rw [gI n (by omega),n8 (by omega),Int.toNat_natCast,Nat.min_eq_left (by omega)]
  congr 1
  rw [gW,CA,cK,Bool.eq_iff_iff]
  simp only [beq_iff_eq,decide_eq_true_eq]
  have hdiv:(eT f/2^n=0)↔eT f<2^n:=Nat.div_eq_zero_iff_lt (Nat.two_pow_pos n)
  constructor
  ·intro h0 i hi
   have h1:=mem_bitsN.1 hi
   apply Classical.byContradiction
   intro h2
   have:eT f<2^i:=Nat.lt_of_lt_of_le (hdiv.1 (by omega)) (Nat.pow_le_pow_right (by decide) (by omega))
   rw [Nat.testBit_lt_two_pow this] at h1;cases h1.2
  ·intro h0
   have:eT f<2^n:=by
    apply Nat.lt_pow_two_of_testBit
    intro j hj
    cases hb:(eT f).testBit j with
    |false=>rfl
    |true=>have:=h0 j (mem_bitsN.2 ⟨n4 (Ca f) hb,hb⟩);omega
   have:=hdiv.2 this
   omega
theorem WC (m:Nat):(bR m).Pairwise (· < ·):=List.Pairwise.filter _ List.pairwise_lt_range
theorem OF (hk:Fu k) {f:List Cl} {d:Int} (hf:am f) (hlen:f.length<1073741824) (ret:Bool→Option S):sL k f d ret=ret (cK f d):=by
 have hlt:=Ca f
 simp only [sL,Qv,af hk,OO hk hf hlen,gW,qF hk (show eT f<4294967296 by omega),dm]
 have hs:=WC (eT f)
 have hl:=f8 (eT f)
 unfold cK
 generalize bR (eT f)=l at hs hl
 by_cases h0:l=[]
 ·subst h0;simp [ae]
 ·have hpos:0<l.length:=List.length_pos_iff.2 h0
  have hb:((l.length:Int)==0)=false:=by rw [beq_eq_false_iff_ne];omega
  have e1:(l.length:Int)-1=((l.length-1:Nat):Int):=by omega
  rw [hb,ad,dB (by omega) (by omega),e1,yn,CR,List.getElem?_eq_getElem (by omega)]
  simp only [Option.map_some,Option.bind_some]
  congr 1
  rw [Bool.eq_iff_iff,decide_eq_true_eq,decide_eq_true_eq]
  constructor
  ·intro h i hi
   obtain ⟨j,hj,rfl⟩:=List.getElem_of_mem hi
   have:l[j]≤l[l.length-1]:=by
    by_cases hjl:j=l.length-1
    ·subst hjl;exact Nat.le_refl _
    ·exact Nat.le_of_lt (List.pairwise_iff_getElem.1 hs j (l.length-1) hj (by omega) (by omega))
   have h':((l[l.length-1]:Nat):Int)<d:=h
   omega
  ·intro h;exact h _ (List.getElem_mem _)
end Go.Proofs.YtapmagaejigpnaaGreatDoor
namespace Go.Proofs.YtapmagaejigpnaaGreatDoor
open Go PI
set_option linter.unusedVariables false
set_option linter.unusedSimpArgs false
set_option maxRecDepth 20000
variable {S:Type} {k:Nat}
def jH (c:Cl):Bool:= !bK c
def cD (l:List Cl):List Cl:=l.filter jH
def bD (f:List Cl):Bool:=bn f&&f.all fun c=> !bK c
def RFa (f:List Cl):Prop:=RF f∧ ∀c∈f,bK c=false
theorem gA {f:List Cl} (h:am f):bD f=true↔RFa f:=by
 unfold bD RFa
 rw [Bool.and_eq_true,fV h,List.all_eq_true]
 simp
theorem RFa.right {f:List Cl} (h:RFa f):bD f=true:=(gA h.1.2).2 h
theorem Ht {l:List Cl} (h: ∀c∈l,bK c=false):cD l=l:=List.filter_eq_self.2 fun c hc=>by unfold jH;rw [h c hc];rfl
theorem Bv {l:List Cl} {c:Cl} (h:c∈cD l):c∈l∧bK c=false:=by
 have:=List.mem_filter.1 h
 refine ⟨this.1, ?_⟩
 have h2:=this.2
 unfold jH at h2
 simpa using h2
theorem Hv {l:List Cl} (h:am l):am (cD l):=fun c hc=>h c (Bv hc).1
theorem Jp {l:List Cl} (hl:am l) (hc: ∀c∈l,bK c=false) (h:(bk l).2=0):RFa (bk l).1:=by
 refine ⟨pT hl h,fun c hcm=> ?_⟩
 have h':bk l=((bk l).1,0):=Prod.ext rfl h
 rw [(pS h').1] at hcm
 exact hc c (mem_mins.1 hcm).1
theorem EJ:RFa []:=⟨uA,fun c hc=>by cases hc⟩
theorem zC {c:Cl} (h:RC c) (h':bK c=false):RFa [c]:=⟨gz h,fun d hd=>by simp at hd;subst hd;exact h'⟩
theorem Hu (l:List Cl):(cD l).length≤l.length:=List.length_filter_le _ _
theorem aaJ (hk:Fu k) (ret:Int→Option S) {l:List Cl} (hl:am l) (hlen:l.length<2147483648):
  ∀ (r p:List Cl) (m:Nat),l=p++r→r.length<m→ ∃v:Int,decide (v≥0)=r.any bK∧pM k ret l m (p.length:Int)=ret v:=by
 intro r
 induction r with
 |nil=>
  intro p m h hm
  obtain ⟨m,rfl,hm'⟩:=ak hm
  exact ⟨-1,rfl,by simp only [pM,ws,aA h,ad]⟩
 |cons x r ih=>
  intro p m h hm
  obtain ⟨m,rfl,hm'⟩:=ak hm
  obtain ⟨e1,e2,e3,e4⟩:=az h (by omega)
  have hx:aU x:=hl x (by rw [h];simp)
  obtain ⟨v,hv,hr⟩:=ih (p++[x]) m e4 hm'
  simp only [pM,ws,e1,ae,e2,Option.bind_some,af hk,Oo hk hx,e3,hr,List.any_cons]
  cases hb:bK x with
  |true=>exact ⟨(p.length:Int),by simp,by rw [ae]⟩
  |false=>exact ⟨v,by rw [hv];rfl,by rw [ad]⟩
theorem Wq (f:List Cl):(!f.any bK)=f.all fun c=> !bK c:=by
 induction f with
 |nil=>rfl
 |cons c f ih=>rw [List.any_cons,List.all_cons,Bool.not_or,ih]
theorem uI (hk:Fu k) {f:List Cl} (hf:am f) (hlen:f.length<2147483648) (ret:Bool→Option S):kN k f ret=ret (bD f):=by
 obtain ⟨v,hv,hr⟩:=aaJ hk (fun r1:Int=>(fun r2:Bool=>ret (!r2)) (decide (r1≥0))) hf hlen f [] k rfl (by have:4294967296≤k:=hk;omega)
 simp only [kN,PH,af hk,qE hk hf hlen,B4,QX,B6,GP]
 unfold bD
 cases bn f with
 |true=>
  rw [ae,Bool.true_and,←Wq]
  refine hr.trans ?_
  simp only [hv]
 |false=>rw [ad,Bool.false_and]
theorem aa1 (hk:Fu k) (ret:Int→Option S) {l:List (List Cl)} (hl: ∀f∈l,am f∧f.length<2147483648) (hlen:l.length<4294967296):
  ∀ (r p:List (List Cl)) (m:Nat),l=p++r→r.length<m→o_ k ret l m (p.length:Int)=ret (if r.all bD then 0 else 2):=by
 intro r
 induction r with
 |nil=>
  intro p m h hm
  obtain ⟨m,rfl,hm'⟩:=ak hm
  simp only [o_,vr,aA h,ad];rfl
 |cons x r ih=>
  intro p m h hm
  obtain ⟨m,rfl,hm'⟩:=ak hm
  obtain ⟨e1,e2,e3,e4⟩:=az h (by omega)
  have hx:=hl x (by rw [h];simp)
  simp only [o_,vr,e1,ae,e2,Option.bind_some,af hk,uI hk hx.1 hx.2,e3,ih (p++[x]) m e4 hm']
  by_cases hr:bD x=true
  ·have:(x::r).all bD=r.all bD:=by rw [List.all_cons,hr,Bool.true_and]
   rw [hr,Bool.not_true,ad,this]
  ·rw [Bool.not_eq_true] at hr
   have:(x::r).all bD=false:=by rw [List.all_cons,hr,Bool.false_and]
   rw [hr,Bool.not_false,ae,this,if_neg (by decide)]
theorem aeS (hk:Fu k) {l:List (List Cl)} (hl: ∀f∈l,am f∧f.length<2147483648) (hlen:l.length<4294967296) (ret:Int→Option S):w6 k l ret=ret (if l.all bD then 0 else 2):=by
 simp only [w6,FS]
 exact aa1 hk ret hl hlen l [] k rfl (by have:4294967296≤k:=hk;omega)
theorem abp (hk:Fu k) (ret:Bool→Option S) {l:List Cl} (hl: ∀c∈l,RC c) (hlen:l.length<2147483648):
  ∀ (r p:List Cl) (m:Nat),l=p++r→r.length<m→px k ret l m (p.length:Int)=ret (r.all fun c=> !bK c):=by
 intro r
 induction r with
 |nil=>
  intro p m h hm
  obtain ⟨m,rfl,hm'⟩:=ak hm
  simp only [px,vY,aA h,ad];rfl
 |cons x r ih=>
  intro p m h hm
  obtain ⟨m,rfl,hm'⟩:=ak hm
  obtain ⟨e1,e2,e3,e4⟩:=az h (by omega)
  have hx:RC x:=hl x (by rw [h];simp)
  simp only [px,vY,e1,ae,e2,Option.bind_some,af hk,OK hk hx,e3,ih (p++[x]) m e4 hm',List.all_cons]
  cases bK x with
  |true=>rw [ae];rfl
  |false=>rw [ad];rfl
theorem ky (hk:Fu k) {f:List Cl} (hf:am f) (hlen:f.length<2147483648) (ret:Bool→Option S):gi k f ret=ret (bD f):=by
 simp only [gi,Gs,af hk,gD hk hf hlen]
 unfold bD
 cases hr:bn f with
 |true=>
  have h:=(fV hf).1 hr
  rw [Bool.not_true,ad,Bool.true_and]
  exact abp hk ret (fun c hc=>h.rc hc) hlen f [] k rfl (by have:4294967296≤k:=hk;omega)
 |false=>rw [Bool.not_false,ae,Bool.false_and]
def gw (l:List Cl):List Cl×Int:=bk (cD l)
def eI (f:List Cl):List Cl×Int:=if bn f then gw f else ([],2)
def fR (f:List Cl):List Cl×Int:=if bn f then if (cY f).2=0 then gw (cY f).1 else ([],(cY f).2) else ([],2)
theorem C9 {l:List Cl} (hl:am l) (h:(gw l).2=0):RFa (gw l).1:=Jp (Hv hl) (fun c hc=>(Bv hc).2) h
theorem yL {f:List Cl} (h:(eI f).2=0) (hf:am f):RFa (eI f).1:=by
 unfold eI at h ⊢
 split
 ·next hr=>rw [if_pos hr] at h;exact C9 hf h
 ·next hr=>rw [if_neg hr] at h;exact absurd h (by decide)
theorem DI {f:List Cl} (h:(fR f).2=0) (hf:am f):RFa (fR f).1:=by
 unfold fR at h ⊢
 split
 ·next hr=>
  rw [if_pos hr] at h
  split
  ·next h0=>rw [if_pos h0] at h;exact C9 (jl h0).2 h
  ·next h0=>rw [if_neg h0] at h;exact absurd h h0
 ·next hr=>rw [if_neg hr] at h;exact absurd h (by decide)
theorem Oz (hk:Fu k) {c:Cl} (hc:aU c) (ret:Cl×Bool→Option S):sr k c ret=ret (c,jH c):=by
 simp only [sr,PJ,af hk,Oo hk hc];rfl
theorem aa9 (hk:Fu k) (ret:List Cl→Option S) {l:List Cl} (hl:am l) (hlen:l.length<2147483648):
  ∀ (r p:List Cl) (m:Nat) (o:List Cl),l=p++r→r.length<m→o.length+r.length<4294967296→o8 k ret l m (p.length:Int) o=ret (o++cD r):=by
 intro r
 induction r with
 |nil=>
  intro p m o h hm ho
  obtain ⟨m,rfl,hm'⟩:=ak hm
  simp only [o8,vo,aA h,ad,cD,List.filter_nil,List.append_nil]
 |cons x r ih=>
  intro p m o h hm ho
  obtain ⟨m,rfl,hm'⟩:=ak hm
  obtain ⟨e1,e2,e3,e4⟩:=az h (by omega)
  have hx:aU x:=hl x (by rw [h];simp)
  simp only [List.length_cons] at ho
  simp only [o8,vo,e1,ae,e2,Option.bind_some,af hk,Oz hk hx,e3]
  cases hb:jH x with
  |true=>
   rw [ae,aO (by simp;omega),ih (p++[x]) m (o++[x]) e4 hm' (by simp;omega)]
   unfold cD
   rw [List.filter_cons_of_pos hb,List.append_assoc];rfl
  |false=>
   rw [ad,ih (p++[x]) m o e4 hm' (by omega)]
   unfold cD
   rw [List.filter_cons_of_neg (by rw [hb];decide)]
theorem aeU (hk:Fu k) {l:List Cl} (hl:am l) (hlen:l.length<2147483648) (ret:List Cl→Option S):wZ k l ret=ret (cD l):=by
 simp only [wZ,FQ]
 have:=aa9 hk ret hl hlen l [] k [] rfl (by have:4294967296≤k:=hk;omega) (by simp;omega)
 simpa using this
theorem OA (hk:Fu k) {f:List Cl} (hf:am f) (hlen:f.length<2147483648) (ret:List Cl×Int→Option S):sq k f ret=ret (eI f):=by
 have:=Hu f
 simp only [sq,PF,af hk,qE hk hf hlen,aeU hk hf hlen,kx hk (Hv hf) (show (cD f).length<2147483648 by omega)]
 unfold eI
 cases bn f with
 |true=>rw [Bool.not_true,ad,if_pos rfl];rfl
 |false=>rw [Bool.not_false,ae,if_neg (by decide)]
theorem aeP (hk:Fu k) {f:List Cl} (hf:am f) (hlen:f.length<2147483648) (ret:List Cl×Int→Option S):wV k f ret=ret (fR f):=by
 simp only [wV,PG,af hk,aeL hk hf hlen,aY]
 unfold fR
 cases bn f with
 |true=>
  rw [if_pos rfl,if_pos rfl]
  by_cases h0:(cY f).2=0
  ·have hr:=jl h0
   rw [decide_eq_true h0,Bool.not_true,ad,if_pos h0,OA hk hr.2 hr.lt]
   unfold eI
   rw [if_pos hr.right]
  ·rw [decide_eq_false h0,Bool.not_false,ae,if_neg h0]
 |false=>
  have e1: ∀ (x y:List Cl×Int),(if false=true then x else y)=y:=fun x y=>if_neg (by decide)
  rw [e1,e1];exact ae _ _
theorem abq (hk:Fu k) (ret:List Cl×Int→Option S) {l:List Cl} (hl: ∀c∈l,RC c) (hlen:l.length<1073741824):
  ∀ (r p:List Cl) (m:Nat) (o:List Cl),l=p++r→r.length<m→am o→o.length+r.length<2147483648→py k ret l m o (p.length:Int)=ret (bk (o++cD r)):=by
 intro r
 induction r with
 |nil=>
  intro p m o h hm hok ho
  obtain ⟨m,rfl,hm'⟩:=ak hm
  simp only [List.length_nil] at ho
  simp only [py,vZ,aA h,ad,cD,List.filter_nil,List.append_nil,af hk,nM hk hok (show o.length<2147483648 by omega)]
 |cons x r ih=>
  intro p m o h hm hok ho
  obtain ⟨m,rfl,hm'⟩:=ak hm
  obtain ⟨e1,e2,e3,e4⟩:=az h (by omega)
  have hx:RC x:=hl x (by rw [h];simp)
  simp only [List.length_cons] at ho
  simp only [py,vZ,e1,ae,e2,Option.bind_some,af hk,OK hk hx,e3]
  cases hb:bK x with
  |false=>
   rw [Bool.not_false,ae,aO (by simp;omega),ih (p++[x]) m (o++[x]) e4 hm' (eY hok fun c hc=>by simp at hc;subst hc;exact hx.ok) (by simp;omega)]
   unfold cD
   rw [List.filter_cons_of_pos (by unfold jH;rw [hb];rfl),List.append_assoc];rfl
  |true=>
   rw [Bool.not_true,ad,ih (p++[x]) m o e4 hm' hok (by omega)]
   unfold cD
   rw [List.filter_cons_of_neg (by unfold jH;rw [hb];decide)]
theorem zN (hk:Fu k) {l:List Cl} (hl: ∀c∈l,RC c) (hlen:l.length<1073741824) (ret:List Cl×Int→Option S):mH k l ret=ret (gw l):=by
 simp only [mH,Gt]
 have:=abq hk ret hl hlen l [] k [] rfl (by have:4294967296≤k:=hk;omega) (fun c hc=>by cases hc) (by simp;omega)
 simpa [gw] using this
theorem afb (hk:Fu k) {f:List Cl} (hf:am f) (hlen:f.length<1073741824) (ret:List Cl×Int→Option S):xv k f ret=ret (eI f):=by
 simp only [xv,Qp,af hk,gD hk hf (show f.length<2147483648 by omega)]
 unfold eI
 cases hr:bn f with
 |true=>
  have h:=(fV hf).1 hr
  rw [Bool.not_true,ad,if_pos rfl,zN hk (fun c hc=>h.rc hc) hlen]
 |false=>rw [Bool.not_false,ae,if_neg (by decide)]
theorem afc (hk:Fu k) {f:List Cl} (hf:am f) (hlen:f.length<2147483648) (ret:List Cl×Int→Option S):sJ k f ret=ret (fR f):=by
 simp only [sJ,Qq,af hk,OS hk hf hlen,aY]
 unfold fR
 cases bn f with
 |true=>
  rw [if_pos rfl,if_pos rfl]
  by_cases h0:(cY f).2=0
  ·have hr:=jl h0
   rw [decide_eq_true h0,Bool.not_true,ad,if_pos h0,zN hk (fun c hc=>hr.rc hc) (by have:=hr.len;omega)]
  ·rw [decide_eq_false h0,Bool.not_false,ae,if_neg h0]
 |false=>
  have e1: ∀ (x y:List Cl×Int),(if false=true then x else y)=y:=fun x y=>if_neg (by decide)
  rw [e1,e1];exact ae _ _
def eH (f g:List Cl):List Cl×Int:=gw (meets f g)
def ee (f g:List Cl):List Cl×Int:=if bD f&&bD g then b8 f g else ([],2)
theorem OB (hk:Fu k) {f g:List Cl} (hf:am f) (hg:am g) (h1:f.length<1073741824) (h2:g.length<1073741824) (ret:List Cl×Int→Option S):su k f g ret=ret (b8 f g):=by
 simp only [su,PL,af hk,List.nil_append]
 rw [aO (by simp;omega),aO (by omega),kx hk (eY hf hg) (by rw [List.length_append];omega)]
 rfl
theorem aeN (hk:Fu k) {f g:List Cl} (hf:am f) (hg:am g) (h1:f.length<1073741824) (h2:g.length<1073741824) (ret:List Cl×Int→Option S):wU k f g ret=ret (ee f g):=by
 simp only [wU,PE,af hk,aeS hk (l:=[f,g]) (by simpa using ⟨⟨hf,by omega⟩,hg,by omega⟩) (by simp),OB hk hf hg h1 h2]
 have e:[f,g].all bD=(bD f&&bD g):=by simp
 unfold ee
 rw [e]
 cases (bD f&&bD g) with
 |true=>rw [if_pos rfl,if_pos rfl];exact ad _ _
 |false=>
  rw [if_neg (by decide),if_neg (by decide)];exact ae _ _
theorem ZM {f g:List Cl} (hf: ∀c∈f,bK c=false) (hg: ∀c∈g,bK c=false):gw (f++g)=b8 f g:=by
 unfold gw b8
 rw [Ht fun c hc=>by
  rcases List.mem_append.1 hc with h|h
  ·exact hf c h
  ·exact hg c h]
theorem tv {f g:List Cl} (hf:RFa f) (hg:RFa g) (h:(b8 f g).2=0):RFa (b8 f g).1:=
 Jp (eY hf.1.2 hg.1.2) (fun c hc=>by
  rcases List.mem_append.1 hc with h|h
  ·exact hf.2 c h
  ·exact hg.2 c h) h
theorem ON (hk:Fu k) {f g:List Cl} (hf:am f) (hg:am g) (h1:f.length<268435456) (h2:g.length<268435456) (ret:List Cl×Int→Option S):fG k f g ret=ret (ee f g):=by
 simp only [fG,Qo,af hk,ky hk hf (show f.length<2147483648 by omega),ky hk hg (show g.length<2147483648 by omega),List.nil_append]
 unfold ee
 cases hr:bD f with
 |true=>
  rw [Bool.not_true,ad,Bool.true_and]
  cases hr2:bD g with
  |true=>
   have hf':=(gA hf).1 hr
   have hg':=(gA hg).1 hr2
   rw [Bool.not_true,ad,if_pos rfl,aO (by simp;omega),aO (by omega),zN hk (fun c hc=>by
    rcases List.mem_append.1 hc with h|h
    ·exact hf'.1.rc h
    ·exact hg'.1.rc h) (by rw [List.length_append];omega),ZM hf'.2 hg'.2]
  |false=>rw [Bool.not_false,ae,if_neg (by decide)]
 |false=>rw [Bool.not_false,ae,Bool.false_and,if_neg (by decide)]
theorem aeO (hk:Fu k) {b c:Cl} (hb:aU b) (hc:aU c) (ret:Cl×Bool→Option S):w5 k b c ret=ret (cL c b,jH (cL c b)):=by
 simp only [w5,PM,af hk,E3 hk hc hb,Oz hk (yI hc hb)]
theorem aa_ (hk:Fu k) (ret:List Cl→Option S) {c:Cl} (hc:aU c) {l:List Cl} (hl:am l) (hlen:l.length<2147483648):
  ∀ (r p:List Cl) (m:Nat) (o:List Cl),l=p++r→r.length<m→o.length+r.length<4294967296→o0 k ret c l m (p.length:Int) o=ret (o++cD (r.map (cL c))):=by
 intro r
 induction r with
 |nil=>
  intro p m o h hm ho
  obtain ⟨m,rfl,hm'⟩:=ak hm
  simp only [o0,vn,aA h,ad,List.map_nil,cD,List.filter_nil,List.append_nil]
 |cons x r ih=>
  intro p m o h hm ho
  obtain ⟨m,rfl,hm'⟩:=ak hm
  obtain ⟨e1,e2,e3,e4⟩:=az h (by omega)
  have hx:aU x:=hl x (by rw [h];simp)
  simp only [List.length_cons] at ho
  simp only [o0,vn,e1,ae,e2,Option.bind_some,af hk,aeO hk hx hc,e3]
  cases hb:jH (cL c x) with
  |true=>
   rw [ae,aO (by simp;omega),ih (p++[x]) m (o++[cL c x]) e4 hm' (by simp;omega)]
   unfold cD
   rw [List.map_cons,List.filter_cons_of_pos hb,List.append_assoc];rfl
  |false=>
   rw [ad,ih (p++[x]) m o e4 hm' (by omega)]
   unfold cD
   rw [List.map_cons,List.filter_cons_of_neg (by rw [hb];decide)]
theorem aeV (hk:Fu k) {c:Cl} (hc:aU c) {l:List Cl} (hl:am l) (hlen:l.length<2147483648) (ret:List Cl→Option S):wY k l c ret=ret (cD (l.map (cL c))):=by
 simp only [wY,FP]
 have:=aa_ hk ret hc hl hlen l [] k [] rfl (by have:4294967296≤k:=hk;omega) (by simp;omega)
 simpa using this
theorem aaZ (hk:Fu k) (ret:List Cl×Int→Option S) {g f:List Cl} (hf:am f) (hg:am g) (hlf:f.length<32768) (hlg:g.length<32768):
  ∀ (r p:List Cl) (m:Nat) (o:List Cl),f=p++r→r.length<m→am o→o.length+r.length*g.length<1073741825→o9 k ret g f m (p.length:Int) o=ret (bk (o++cD (meets r g))):=by
 intro r
 induction r with
 |nil=>
  intro p m o h hm hok ho
  obtain ⟨m,rfl,hm'⟩:=ak hm
  simp only [o9,vq,aA h,ad,af hk]
  rw [kx hk hok (by omega)]
  simp [meets,cD]
 |cons x r ih=>
  intro p m o h hm hok ho
  obtain ⟨m,rfl,hm'⟩:=ak hm
  obtain ⟨e1,e2,e3,e4⟩:=az h (by omega)
  have hx:aU x:=hf x (by rw [h];simp)
  have hmul:(x::r).length*g.length=r.length*g.length+g.length:=by rw [List.length_cons,Nat.succ_mul]
  rw [hmul] at ho
  have hcl:=Hu (g.map (cL x))
  rw [List.length_map] at hcl
  simp only [o9,vq,e1,ae,e2,Option.bind_some,af hk,aeV hk hx hg (show g.length<2147483648 by omega),e3]
  rw [aO (by omega),ih (p++[x]) m _ e4 hm' (eY hok fun c hc=>by
   obtain ⟨b,hb,rfl⟩:=List.mem_map.1 (Bv hc).1
   exact yI hx (hg b hb)) (by rw [List.length_append];omega)]
  have:cD (meets (x::r) g)=cD (g.map (cL x))++cD (meets r g):=by simp [meets,cD]
  rw [this,List.append_assoc]
theorem aeR (hk:Fu k) {f g:List Cl} (hf:am f) (hg:am g) (h1:f.length<32768) (h2:g.length<32768) (ret:List Cl×Int→Option S):oi k f g ret=ret (eH f g):=by
 simp only [oi,FR]
 have hb:f.length*g.length<1073741824:=Nat.lt_of_le_of_lt (Nat.mul_le_mul (Nat.le_of_lt_succ h1) (Nat.le_of_lt_succ h2)) (by decide)
 have:=aaZ hk ret hf hg h1 h2 f [] k [] rfl (by have:4294967296≤k:=hk;omega) (fun c hc=>by cases hc) (by simp;omega)
 simpa [eH,gw] using this
theorem abt (hk:Fu k) (ret:List Cl×Int→Option S) (rec0:List Cl→Int→Option S) {x:Cl} (hx:RC x) {g f:List Cl} {v:Int} (hfx:al f v=some x) (hg: ∀c∈g,RC c) (hlen:g.length<65536):
  ∀ (r p:List Cl) (m:Nat) (o:List Cl),g=p++r→r.length<m→o.length+r.length<1099511627776→na k ret rec0 f g v m o (p.length:Int)=rec0 (o++r.map (cL x)) (IntKind.wrap .i64 (v+1)):=by
 intro r
 induction r with
 |nil=>
  intro p m o h hm ho
  obtain ⟨m,rfl,hm'⟩:=ak hm
  simp only [na,vW,aA h,ad,List.map_nil,List.append_nil]
 |cons y r ih=>
  intro p m o h hm ho
  obtain ⟨m,rfl,hm'⟩:=ak hm
  obtain ⟨e1,e2,e3,e4⟩:=az h (by omega)
  have hy:RC y:=hg y (by rw [h];simp)
  simp only [List.length_cons] at ho
  simp only [na,vW,e1,ae,e2,hfx,Option.bind_some,af hk,OL hk hx hy,e3]
  rw [aO (by simp;omega),ih (p++[y]) m (o++[cL x y]) e4 hm' (by simp;omega)]
  simp
theorem abr (hk:Fu k) (ret:List Cl×Int→Option S) {g f:List Cl} (hf: ∀c∈f,RC c) (hg: ∀c∈g,RC c) (hlf:f.length<32768) (hlg:g.length<32768):
  ∀ (r p:List Cl) (m:Nat) (o:List Cl),f=p++r→r.length<m→(∀c∈o,RC c)→o.length+r.length*g.length<1073741824→lJ k ret f g m o (p.length:Int)=ret (gw (o++meets r g)):=by
 intro r
 induction r with
 |nil=>
  intro p m o h hm hok ho
  obtain ⟨m,rfl,hm'⟩:=ak hm
  simp only [lJ,rq,aA h,ad,af hk]
  rw [zN hk hok (by omega)]
  simp [meets]
 |cons x r ih=>
  intro p m o h hm hok ho
  obtain ⟨m,rfl,hm'⟩:=ak hm
  obtain ⟨e1,e2,e3,e4⟩:=az h (by omega)
  have hx:RC x:=hf x (by rw [h];simp)
  have hmul:(x::r).length*g.length=r.length*g.length+g.length:=by rw [List.length_cons,Nat.succ_mul]
  rw [hmul] at ho
  have hk':4294967296≤k:=hk
  simp only [lJ,rq,e1,ae]
  have:=abt hk ret (lJ k ret f g m) hx e2 hg (by omega) g [] k o rfl (by omega) (by omega)
  simp only [List.length_nil] at this
  rw [show (0:Int)=((0:Nat):Int) from rfl,this,e3,ih (p++[x]) m _ e4 hm' (fun c hc=>by
   rcases List.mem_append.1 hc with h|h
   ·exact hok c h
   ·obtain ⟨b,hb,rfl⟩:=List.mem_map.1 h
    exact K_ hx (hg b hb)) (by rw [List.length_append,List.length_map];omega)]
  simp [meets]
theorem afa (hk:Fu k) {f g:List Cl} (hf:RFa f) (hg:RFa g) (ret:List Cl×Int→Option S):kS k f g ret=ret (eH f g):=by
 have l1:=hf.1.len;have l2:=hg.1.len
 simp only [kS,Gq,af hk,ky hk hf.1.2 hf.1.lt,ky hk hg.1.2 hg.1.lt,hf.right,hg.right,Bool.not_true,ad]
 have hb:f.length*g.length≤64*64:=Nat.mul_le_mul l1 l2
 have:=abr hk ret (fun c hc=>hf.1.rc hc) (fun c hc=>hg.1.rc hc) (by omega) (by omega) f [] k [] rfl (by have:4294967296≤k:=hk;omega) (fun c hc=>by cases hc) (by simp;omega)
 simpa [eH] using this
theorem t8 {f g:List Cl} (hf:am f) (hg:am g) (h:(eH f g).2=0):RFa (eH f g).1:=C9 (La hf hg) h
theorem Zx {c:Cl} {i:Int} (h:bK c=false) (hp:bN c.pos i=true):bN c.neg i=false:=by
 cases hn:bN c.neg i with
 |false=>rfl
 |true=>
  exfalso
  unfold bN at hp hn
  rw [Bool.and_eq_true] at hp hn
  unfold bK at h
  rw [Bool.not_eq_false',decide_eq_true_eq] at h
  have:(c.pos.toNat&&&c.neg.toNat).testBit i.toNat=true:=by rw [Nat.testBit_and,hp.2,hn.2];rfl
  rw [h,Nat.zero_testBit] at this;cases this
theorem Ry {s i:Int} {j:Nat} (h:(dr s i).toNat.testBit j=true):s.toNat.testBit j=true:=by
 unfold dr at h
 split at h
 ·rw [Int.toNat_natCast,kl,Nat.testBit_and,Bool.and_eq_true,Bool.and_eq_true] at h;exact h.1.1
 ·rw [Int.toNat_natCast,Nat.testBit_and,Bool.and_eq_true] at h;exact h.1
theorem WG {c:Cl}:bK c=false↔ ∀j,¬ (c.pos.toNat.testBit j=true∧c.neg.toNat.testBit j=true):=by
 unfold bK
 rw [Bool.not_eq_false',decide_eq_true_eq]
 constructor
 ·intro h j ⟨h1,h2⟩
  have:(c.pos.toNat&&&c.neg.toNat).testBit j=true:=by rw [Nat.testBit_and,h1,h2];rfl
  rw [h,Nat.zero_testBit] at this;cases this
 ·intro h
  apply Nat.eq_of_testBit_eq
  intro j
  rw [Nat.zero_testBit,Nat.testBit_and]
  cases h1:c.pos.toNat.testBit j with
  |false=>rfl
  |true=>
   cases h2:c.neg.toNat.testBit j with
   |false=>rfl
   |true=>exact absurd ⟨h1,h2⟩ (h j)
theorem ym {c:Cl} {i:Int} (h:bK c=false):bK (bU i c)=false:=by
 rw [WG] at h ⊢
 exact fun j ⟨h1,h2⟩=>h j ⟨Ry h1,Ry h2⟩
def ep (i:Int) (c:Cl) (h:List Cl) (q:List Cl×Int):List Cl×Int:=
 if q.2=0 then if (eH [bU i c] q.1).2=0 then b8 h (eH [bU i c] q.1).1 else ([],(eH [bU i c] q.1).2) else ([],q.2)
def cv (i:Int) (r h:List Cl) (c:Cl):List Cl×Int:=
 if bN c.pos i then ep i c h (eI r) else if bN c.neg i then ep i c h (fR r) else b8 h [bU i c]
def il (f:List Cl) (i:Int) (r:List Cl):List Cl×Int:=if bD f&&bn r&&kZ i then aZ (cv i r) [] f else ([],2)
theorem Lt {i:Int} {c:Cl} {h:List Cl} {q:List Cl×Int} (hh:RFa h) (hq:q.2=0→RFa q.1) (h0:(ep i c h q).2=0):RFa (ep i c h q).1:=by
 unfold ep at h0 ⊢
 split
 ·next h1=>
  rw [if_pos h1] at h0
  split
  ·next h2=>rw [if_pos h2] at h0;exact tv hh (t8 (gz (jZ i c)).2 (hq h1).1.2 h2) h0
  ·next h2=>rw [if_neg h2] at h0;exact absurd h0 h2
 ·next h1=>rw [if_neg h1] at h0;exact absurd h0 h1
theorem ads {i:Int} {r h:List Cl} {c:Cl} (hr:RF r) (hh:RFa h) (hc:bK c=false) (h0:(cv i r h c).2=0):RFa (cv i r h c).1:=by
 unfold cv at h0 ⊢
 split
 ·next h1=>rw [if_pos h1] at h0;exact Lt hh (fun h=>yL h hr.2) h0
 ·next h1=>
  rw [if_neg h1] at h0
  split
  ·next h2=>rw [if_pos h2] at h0;exact Lt hh (fun h=>DI h hr.2) h0
  ·next h2=>rw [if_neg h2] at h0;exact tv hh (zC (jZ i c) (ym hc)) h0
theorem Zk {i:Int} {r:List Cl} (hr:RF r): ∀ {l h:List Cl},(∀c∈l,bK c=false)→RFa h→(aZ (cv i r) h l).2=0→RFa (aZ (cv i r) h l).1:=by
 intro l
 induction l with
 |nil=>intro h _ hh _;exact hh
 |cons c l ih=>
  intro h hl hh h0
  unfold aZ at h0 ⊢
  split
  ·next h1=>
   rw [if_pos h1] at h0
   exact ih (fun d hd=>hl d (by simp [hd])) (ads hr hh (hl c (by simp)) h1) h0
  ·next h1=>rw [if_neg h1] at h0;exact absurd h0 h1
theorem adu {f r:List Cl} {i:Int} (hf:am f) (hr:am r) (h:(il f i r).2=0):RFa (il f i r).1:=by
 unfold il at h ⊢
 split
 ·next hc=>
  rw [if_pos hc] at h
  simp only [Bool.and_eq_true] at hc
  exact Zk ((fV hr).1 hc.1.2) ((gA hf).1 hc.1.1).2 EJ h
 ·next hc=>rw [if_neg hc] at h;exact absurd h (by decide)
theorem ahz {r:List Cl} (hr:RF r) (h:(eI r).2=0):(eI r).1.length≤64:=(yL h hr.2).1.len
theorem Y9 (hk:Fu k) (ret:List Cl×Int→Option S) (rec0:Int→List Cl→Option S) (i:Int) (r f:List Cl) {h:List Cl} {v:Int} {g:List Cl} {e:Int} (hh:RF h) (hg:e=0→RF g):
  oZ k ret rec0 i r f v h k g e=if e=0 then if (b8 h g).2=0 then rec0 (IntKind.wrap .i64 (v+1)) (b8 h g).1 else ret ([],(b8 h g).2) else ret ([],e):=by
 obtain ⟨q,hq⟩: ∃q,k=q+1:=⟨k-1,by have:4294967296≤k:=hk;omega⟩
 have: ∀j,j=q+1→oZ k ret rec0 i r f v h j g e=vm k ret i r f v h rec0 g e:=by rintro j rfl;rfl
 rw [this k hq]
 simp only [vm,aY]
 by_cases h0:e=0
 ·have l1:=hh.len;have l2:=(hg h0).len
  rw [decide_eq_true h0,ae,if_pos h0,af hk,OB hk hh.2 (hg h0).2 (by omega) (by omega)]
  by_cases h1:(b8 h g).2=0
  ·rw [decide_eq_true h1,if_pos h1];exact ad _ _
  ·rw [decide_eq_false h1,if_neg h1];exact ae _ _
 ·rw [decide_eq_false h0,ad,if_neg h0];exact ae _ _
theorem aa0 (hk:Fu k) (ret:List Cl×Int→Option S) {i:Int} {q:List Cl} (hq:RF q) {l:List Cl} (hl:am l) (hc: ∀c∈l,bK c=false) (hlen:l.length<2147483648):
  ∀ (r p:List Cl) (m:Nat) (h:List Cl),l=p++r→r.length<m→RFa h→lz k ret i q l m (p.length:Int) h=ret (aZ (cv i q) h r):=by
 intro r
 induction r with
 |nil=>
  intro p m h e hm hh
  obtain ⟨m,rfl,hm'⟩:=ak hm
  simp only [lz,rf,aA e,ad];rfl
 |cons x r ih=>
  intro p m h e hm hh
  obtain ⟨m,rfl,hm'⟩:=ak hm
  obtain ⟨e1,e2,e3,e4⟩:=az e (by omega)
  have hx:aU x:=hl x (by rw [e];simp)
  have hxc:bK x=false:=hc x (by rw [e];simp)
  have hg:=zC (jZ i x) (ym hxc)
  have key: ∀ (g:List Cl) (e:Int),(e=0→RFa g)→(cv i q h x=if e=0 then b8 h g else ([],e))→oZ k ret (lz k ret i q l m) i q l (p.length:Int) h k g e=ret (aZ (cv i q) h (x::r)):=by
   intro g e hge hput
   rw [Y9 hk _ _ _ _ _ hh.1 (fun h=>(hge h).1),aZ,hput]
   by_cases h0:e=0
   ·rw [if_pos h0,if_pos h0]
    by_cases h1:(b8 h g).2=0
    ·rw [if_pos h1,if_pos h1,e3]
     exact ih (p++[x]) m _ e4 hm' (tv hh (hge h0) h1)
    ·rw [if_neg h1,if_neg h1]
   ·rw [if_neg h0,if_neg h0,if_neg h0]
  have em: ∀ (s:List Cl),RF s→ ∀ (f:List Cl×Int→Option S),oi k [Cl.mk (dr x.pos i) (dr x.neg i)] s f=f (eH [bU i x] s):=fun s hs f=>aeR hk hg.1.2 hs.2 (by simp) (by have:=hs.len;omega) f
  simp only [lz,rf,e1,ae,e2,Option.bind_some,af hk,uF hk hx.1,uF hk hx.2,qC hk hx.1,qC hk hx.2,OA hk hq.2 hq.lt,aeP hk hq.2 hq.lt,aY]
  cases hp:bN x.pos i with
  |true=>
   rw [ae]
   by_cases h1:(eI q).2=0
   ·have ho:=yL h1 hq.2
    rw [decide_eq_true h1,ae,em _ ho.1]
    exact key _ _ (fun h0=>t8 hg.1.2 ho.1.2 h0) (by unfold cv ep;simp only [hp,h1,if_true])
   ·rw [decide_eq_false h1,ad]
    exact key _ _ (fun h0=>absurd h0 h1) (by unfold cv ep;simp only [hp,h1,if_true,if_false])
  |false=>
   rw [ad]
   cases hn:bN x.neg i with
   |true=>
    rw [ae]
    by_cases h1:(fR q).2=0
    ·have ho:=DI h1 hq.2
     rw [decide_eq_true h1,ae,em _ ho.1]
     exact key _ _ (fun h0=>t8 hg.1.2 ho.1.2 h0) (by unfold cv ep;simp only [hp,hn,h1,if_true,if_false,Bool.false_eq_true])
    ·rw [decide_eq_false h1,ad]
     exact key _ _ (fun h0=>absurd h0 h1) (by unfold cv ep;simp only [hp,hn,h1,if_true,if_false,Bool.false_eq_true])
   |false=>
    rw [ad]
    exact key [bU i x] 0 (fun _=>hg) (by unfold cv;simp only [hp,hn,if_true,if_false,Bool.false_eq_true])
theorem aeQ (hk:Fu k) {f r:List Cl} {i:Int} (hf:am f) (hr:am r) (h1:f.length<2147483648) (h2:r.length<2147483648) (ret:List Cl×Int→Option S):wW k f i r ret=ret (il f i r):=by
 simp only [wW,FO,af hk,uI hk hf h1,aeJ hk,qE hk hr h2]
 unfold il kZ
 cases ha:bD f with
 |false=>rw [Bool.not_false,ae];rfl
 |true=>
  rw [Bool.not_true,ad]
  by_cases hd:0≤i∧i<24
  ·rw [decide_eq_true hd,Bool.not_true,ad]
   cases hb:bn r with
   |false=>rw [Bool.not_false,ae];rfl
   |true=>
    rw [Bool.not_true,ad]
    exact aa0 hk ret ((fV hr).1 hb) hf ((gA hf).1 ha).2 h1 f [] k [] rfl (by have:4294967296≤k:=hk;omega) EJ
  ·rw [decide_eq_false hd,Bool.not_false,ae,Bool.and_false,if_neg (by decide)]
theorem acw {i:Int} {c:Cl} (h:bK c=false):eH [bU i c] [⟨0,0⟩]=([bU i c],0):=by
 have e:meets [bU i c] [⟨0,0⟩]=[bU i c]:=by
  have h1:0≤(bU i c).pos:=withoutS_lt.1
  have h2:0≤(bU i c).neg:=withoutS_lt.1
  have:cL (bU i c) ⟨0,0⟩=bU i c:=by
   unfold cL dK
   simp only [Int.toNat_zero,Nat.or_zero]
   rw [Int.toNat_of_nonneg h1,Int.toNat_of_nonneg h2]
  simp [meets,this]
 unfold eH gw
 rw [e,Ht fun d hd=>by simp at hd;subst hd;exact ym h]
 exact (gz (jZ i c)).1
theorem abu (hk:Fu k) (ret:List Cl×Int→Option S) {i:Int} {q:List Cl} (hq:RF q) {l:List Cl} (hl:am l) (hc: ∀c∈l,bK c=false) (hlen:l.length<2147483648):
  ∀ (r p:List Cl) (m:Nat) (h:List Cl),l=p++r→r.length<m→RFa h→nc k ret l i q m h (p.length:Int)=ret (aZ (cv i q) h r):=by
 intro r
 induction r with
 |nil=>
  intro p m h e hm hh
  obtain ⟨m,rfl,hm'⟩:=ak hm
  simp only [nc,vX,aA e,ad];rfl
 |cons x r ih=>
  intro p m h e hm hh
  obtain ⟨m,rfl,hm'⟩:=ak hm
  obtain ⟨e1,e2,e3,e4⟩:=az e (by omega)
  have hx:aU x:=hl x (by rw [e];simp)
  have hxc:bK x=false:=hc x (by rw [e];simp)
  have hg:=zC (jZ i x) (ym hxc)
  have lh:=hh.1.len
  have em: ∀ (s:List Cl),RFa s→ ∀ (f:List Cl×Int→Option S),kS k [Cl.mk (dr x.pos i) (dr x.neg i)] s f=f (eH [bU i x] s):=fun s hs f=>afa hk hg hs f
  have ej: ∀ (s:List Cl),RFa s→ ∀ (f:List Cl×Int→Option S),fG k h s f=f (b8 h s):=fun s hs f=>by
   have ls:=hs.1.len
   rw [ON hk hh.1.2 hs.1.2 (by omega) (by omega)]
   unfold ee
   rw [hh.right,hs.right];rfl
  have key: ∀ (g:List Cl),RFa g→cv i q h x=b8 h g→(fG k h g fun r10=>ab (!decide (r10.2=0)) (ret ([],r10.2)) (nc k ret l i q m r10.1 ((p++[x]).length:Int)))=ret (aZ (cv i q) h (x::r)):=by
   intro g hge hput
   rw [ej g hge,aZ,hput]
   by_cases h1:(b8 h g).2=0
   ·rw [decide_eq_true h1,Bool.not_true,ad,if_pos h1]
    exact ih (p++[x]) m _ e4 hm' (tv hh hge h1)
   ·rw [decide_eq_false h1,Bool.not_false,ae,if_neg h1]
  have bad: ∀ (e:Int),e≠0→cv i q h x=([],e)→ret ([],e)=ret (aZ (cv i q) h (x::r)):=by
   intro e he hput
   rw [aZ,hput,if_neg he]
  simp only [nc,vX,e1,ae,e2,Option.bind_some,af hk,zO hk hx.1,zO hk hx.2,iy hk hx.1,iy hk hx.2,afb hk hq.2 (show q.length<1073741824 by have:=hq.len;omega),afc hk hq.2 hq.lt,aY,e3]
  cases hp:bN x.pos i with
  |true=>
   rw [ae,Zx hxc hp,ad]
   by_cases h1:(eI q).2=0
   ·have ho:=yL h1 hq.2
    rw [decide_eq_true h1,ae,em _ ho]
    by_cases h2:(eH [bU i x] (eI q).1).2=0
    ·rw [decide_eq_true h2,ae]
     exact key _ (t8 hg.1.2 ho.1.2 h2) (by unfold cv ep;simp only [hp,h1,h2,if_true])
    ·rw [decide_eq_false h2,ad,Bool.not_false,ae]
     exact bad _ h2 (by unfold cv ep;simp only [hp,h1,h2,if_true,if_false])
   ·rw [decide_eq_false h1,ad,ad,Bool.not_false,ae]
    exact bad _ h1 (by unfold cv ep;simp only [hp,h1,if_true,if_false])
  |false=>
   rw [ad]
   cases hn:bN x.neg i with
   |true=>
    rw [ae]
    by_cases h1:(fR q).2=0
    ·have ho:=DI h1 hq.2
     rw [decide_eq_true h1,ae,em _ ho]
     by_cases h2:(eH [bU i x] (fR q).1).2=0
     ·rw [decide_eq_true h2,ae]
      exact key _ (t8 hg.1.2 ho.1.2 h2) (by unfold cv ep;simp only [hp,hn,h1,h2,if_true,if_false,Bool.false_eq_true])
     ·rw [decide_eq_false h2,ad,Bool.not_false,ae]
      exact bad _ h2 (by unfold cv ep;simp only [hp,hn,h1,h2,if_true,if_false,Bool.false_eq_true])
    ·rw [decide_eq_false h1,ad,ad,Bool.not_false,ae]
     exact bad _ h1 (by unfold cv ep;simp only [hp,hn,h1,if_true,if_false,Bool.false_eq_true])
   |false=>
    rw [ad,em _ (zC nJ (by decide)),acw hxc]
    rw [decide_eq_true rfl,ae]
    exact key [bU i x] hg (by unfold cv;simp only [hp,hn,if_true,if_false,Bool.false_eq_true])
theorem afd (hk:Fu k) {f r:List Cl} {i:Int} (hf:am f) (hr:am r) (h1:f.length<2147483648) (h2:r.length<2147483648) (ret:List Cl×Int→Option S):xw k f i r ret=ret (il f i r):=by
 simp only [xw,Gr,af hk,ky hk hf h1,gD hk hr h2,aS]
 unfold il kZ
 cases ha:bD f with
 |false=>rw [Bool.not_false,ae];rfl
 |true=>
  rw [Bool.not_true,ad]
  by_cases h3:i<0
  ·rw [if_pos h3,decide_eq_false (by omega),Bool.and_false,if_neg (by decide)]
  ·by_cases h4:i≥24
   ·rw [if_neg h3,if_pos h4,decide_eq_false (by omega),Bool.and_false,if_neg (by decide)]
   ·rw [if_neg h3,if_neg h4,decide_eq_true (by omega)]
    cases hb:bn r with
    |false=>rw [Bool.not_false,ae];rfl
    |true=>
     rw [Bool.not_true,ad]
     exact abu hk ret ((fV hr).1 hb) hf ((gA hf).1 ha).2 h1 f [] k [] rfl (by have:4294967296≤k:=hk;omega) EJ
end Go.Proofs.YtapmagaejigpnaaGreatDoor
namespace Go.Proofs.YtapmagaejigpnaaGreatDoor
open Go PI
set_option linter.unusedVariables false
set_option linter.unusedSimpArgs false
mutual
def ax:Tm→Nat
 | .mk _ _ _ _ ks sys=>1+aw ks+aI sys
def aw:List Tm→Nat
 |[]=>0
 |t::l=>ax t+aw l
def aI:List (Br Tm)→Nat
 |[]=>0
 |b::l=>iA b+aI l
def iA:Br Tm→Nat
 | .mk _ ks=>aw ks
end
mutual
def ar:Tm→Nat
 | .mk _ _ _ _ ks sys=>max (aP ks) (bh sys)+1
def aP:List Tm→Nat
 |[]=>0
 |t::l=>max (ar t) (aP l)
def bh:List (Br Tm)→Nat
 |[]=>0
 |b::l=>max (kY b) (bh l)
def kY:Br Tm→Nat
 | .mk _ ks=>aP ks
end
theorem kz (b:Br Tm):iA b=aw b.kids:=by cases b;rw [iA]
theorem oI (b:Br Tm):kY b=aP b.kids:=by cases b;rw [kY]
theorem Fp (t:Tm):1≤ax t:=by cases t;rw [ax];omega
theorem uN: ∀ {l:List Tm} {x:Tm},x∈l→ax x≤aw l:=by
 intro l
 induction l with
 |nil=>intro x h;cases h
 |cons t l ih=>
  intro x h
  rw [aw]
  rcases List.mem_cons.1 h with rfl|h
  ·omega
  ·have:=ih h;omega
theorem Fl: ∀ {l:List (Br Tm)} {b:Br Tm},b∈l→aw b.kids≤aI l:=by
 intro l
 induction l with
 |nil=>intro x h;cases h
 |cons t l ih=>
  intro x h
  rw [aI,kz]
  rcases List.mem_cons.1 h with rfl|h
  ·omega
  ·have:=ih h;omega
theorem B8: ∀ {l:List Tm} {x:Tm},x∈l→ar x≤aP l:=by
 intro l
 induction l with
 |nil=>intro x h;cases h
 |cons t l ih=>
  intro x h
  rw [aP]
  rcases List.mem_cons.1 h with rfl|h
  ·omega
  ·have:=ih h;omega
theorem HI: ∀ {l:List (Br Tm)} {b:Br Tm},b∈l→aP b.kids≤bh l:=by
 intro l
 induction l with
 |nil=>intro x h;cases h
 |cons t l ih=>
  intro x h
  rw [bh,oI]
  rcases List.mem_cons.1 h with rfl|h
  ·omega
  ·have:=ih h;omega
theorem md {Q:Tm→Prop} (h: ∀kd n nm r ks sys,(∀x∈ks,Q x)→(∀b∈sys,∀x∈b.kids,Q x)→Q (.mk kd n nm r ks sys)) (t:Tm):Q t:=by
 have: ∀m t,ax t≤m→Q t:=by
  intro m
  induction m with
  |zero=>intro t ht;have:=Fp t;omega
  |succ m ih=>
   intro t ht
   cases t with
   |mk kd n nm r ks sys=>
    rw [ax] at ht
    refine h _ _ _ _ _ _ (fun x hx=>ih x ?_) fun b hb x hx=>ih x ?_
    ·have:=uN hx;omega
    ·have:=Fl hb;have:=uN hx;omega
 exact this _ t (Nat.le_refl _)
def kidsT:List Int:=[-1,0,0,0,2,1,2,2,2,1,1,3,1,3,2,2,1,1,1,0,0,0,4,1,0,0,1,5,2]
def ef (kd:Int):Int:=if kd<0∨kd>28 then-1 else kidsT.getD kd.toNat 0
def dP (kd i:Int):Int:=if (i=1∧(kd=4∨kd=7))∨(i=0∧(kd=5∨kd=22∨kd=27)) then 1 else 0
def bQ (kd i:Int):Int:=if i=0∧(kd=11∨kd=12∨kd=14) then 1 else 0
def ck (kd:Int):Int:=if kd=16 then 2 else if kd=15∨kd=17∨kd=18 then 1 else 0
def aE (kd:Int):Int:=if kd=15 then 1 else 0
theorem wA (kd i:Int):0≤dP kd i∧dP kd i≤1:=by unfold dP;split<;>omega
theorem gO (kd i:Int):0≤bQ kd i∧bQ kd i≤1:=by unfold bQ;split<;>omega
theorem ei (kd:Int):0≤aE kd∧aE kd≤1:=by unfold aE;split<;>omega
def eh (c:UInt8):Bool:=(decide (97≤c.toNat)&&decide (c.toNat≤122))||(decide (65≤c.toNat)&&decide (c.toNat≤90))||decide (c.toNat=95)
def ja (c:UInt8):Bool:=decide (48≤c.toNat)&&decide (c.toNat≤57)
def kj:List UInt8→Bool
 |[]=>false
 |c::l=>eh c&&l.all fun d=>eh d||ja d
def cF (kd dims:Int) (b:Br Tm):Bool:=decide ((b.kids.length:Int)=ck kd)&&(bD b.face&&cK b.face dims)
def eo (vars dims:Int):Tm→Bool
 | .mk kd n nm r ks sys=>
  (decide (ef kd=ks.length)&&(decide (kd=1∨n=0)&&(decide (kd=2∨nm.size=0)&&decide (ck kd=0→sys.length=0))))&&
  (if kd=1 then decide (r.length=0)&&(decide (0≤n)&&decide (vars<0∨n<vars))
   else if kd=2 then decide (r.length=0)&&kj nm.data.toList
   else if kd=13∨kd=21∨kd=26 then bn r&&cK r dims
   else if kd=14 then bD r&&cK r dims
   else sys.all (cF kd dims)&&decide (r.length=0))
def dA (vars v:Int):Int:=if vars<0 then vars else vars+v
mutual
def bz (bd:Bool) (vars dims:Int):Tm→Bool
 | .mk kd n nm r ks sys=> !(bd&&decide (dims>24))&&(eo vars dims (.mk kd n nm r ks sys)&&(ci bd vars dims kd 0 ks&&dc bd vars dims kd sys))
def ci (bd:Bool) (vars dims kd:Int) (i:Nat):List Tm→Bool
 |[]=>true
 |t::l=>bz bd (dA vars (dP kd i)) (dims+bQ kd i) t&&ci bd vars dims kd (i+1) l
def dc (bd:Bool) (vars dims kd:Int):List (Br Tm)→Bool
 |[]=>true
 |b::l=>qY bd vars dims kd b&&dc bd vars dims kd l
def qY (bd:Bool) (vars dims kd:Int):Br Tm→Bool
 | .mk _ ks=>dC bd vars dims kd ks
def dC (bd:Bool) (vars dims kd:Int):List Tm→Bool
 |[]=>true
 |t::l=>bz bd vars (dims+aE kd) t&&dC bd vars dims kd l
end
def cG (t:Tm):Int:=if ar t>200 then 62 else if ax t>20000 then 221 else if bz false (-1) 24 t then 0 else 100
mutual
def OkT:Tm→Prop
 | .mk kd n nm r ks sys=>(aF kd∧aF n∧nm.size<1073741824∧am r∧r.length<1073741824∧ks.length<1073741824∧sys.length<1073741824)∧bw ks∧bu sys
def bw:List Tm→Prop
 |[]=>True
 |t::l=>OkT t∧bw l
def bu:List (Br Tm)→Prop
 |[]=>True
 |b::l=>kI b∧bu l
def kI:Br Tm→Prop
 | .mk f ks=>(am f∧f.length<1073741824∧ks.length<1073741824)∧bw ks
end
theorem okK_iff: ∀ {l:List Tm},bw l↔ ∀t∈l,OkT t:=by
 intro l
 induction l with
 |nil=>rw [bw];simp
 |cons t l ih=>rw [bw,ih];simp
theorem nx {b:Br Tm}:kI b↔(am b.face∧b.face.length<1073741824∧b.kids.length<1073741824)∧ ∀t∈b.kids,OkT t:=by
 cases b;rw [kI,okK_iff]
theorem okS_iff: ∀ {l:List (Br Tm)},bu l↔ ∀b∈l,(am b.face∧b.face.length<1073741824∧b.kids.length<1073741824)∧ ∀t∈b.kids,OkT t:=by
 intro l
 induction l with
 |nil=>rw [bu];simp
 |cons t l ih=>rw [bu,ih,nx];simp
theorem OkT.node {kd n nm r ks sys} (h:OkT (.mk kd n nm r ks sys)):aF kd∧aF n∧nm.size<1073741824∧am r∧r.length<1073741824∧ks.length<1073741824∧sys.length<1073741824:=by rw [OkT] at h;exact h.1
theorem OkT.kid {kd n nm r ks sys x} (h:OkT (.mk kd n nm r ks sys)) (hx:x∈ks):OkT x:=by rw [OkT] at h;exact okK_iff.1 h.2.1 x hx
theorem OkT.br {kd n nm r ks sys b} (h:OkT (.mk kd n nm r ks sys)) (hb:b∈sys):(am b.face∧b.face.length<1073741824∧b.kids.length<1073741824)∧ ∀t∈b.kids,OkT t:=by rw [OkT] at h;exact okS_iff.1 h.2.2 b hb
theorem Wh {bd:Bool} {vars dims kd:Int}: ∀ {l:List Tm},dC bd vars dims kd l=l.all (bz bd vars (dims+aE kd)):=by
 intro l
 induction l with
 |nil=>rw [dC];rfl
 |cons t l ih=>rw [dC,ih];rfl
theorem u9 {bd:Bool} {vars dims kd:Int}: ∀ {l:List (Br Tm)},dc bd vars dims kd l=l.all fun b=>b.kids.all (bz bd vars (dims+aE kd)):=by
 intro l
 induction l with
 |nil=>rw [dc];rfl
 |cons b l ih=>cases b;rw [dc,ih,qY,Wh];rfl
end Go.Proofs.YtapmagaejigpnaaGreatDoor
namespace Go.Proofs.YtapmagaejigpnaaGreatDoor
open Go PI
set_option linter.unusedVariables false
set_option linter.unusedSimpArgs false
set_option maxRecDepth 100000
section
variable {H:Type} {enc:TypeId×Value→H} {w:World} {base:Nat} {spare:Nat→Bool} {held:Bool} {o:Obj} {N:aJ} {g:Gh UU}
noncomputable abbrev jv (enc:TypeId×Value→H) (w:World) (base:Nat) (spare:Nat→Bool) (held:Bool):=DataW.trod enc Tryz.prog w base spare held
def nR (o:Obj) (w:World) (N:aJ) (g:Gh UU) (e:ET) (x:EL e) (cs:List Value):Prop:= ∀ (k:Nat) (p:PU),(dy e x)[k]? =some p→ ∃v,cs[k]? =some v∧Rep (LL o) w N g v p
theorem Bu {l:List (DataW H)}:l.length≤Rows.uptoBulkAll l:=by
 induction l with
 |nil=>simp [Rows.uptoBulkAll]
 |cons x r ih=>
  have:1≤Rows.uptoBulk x:=by
   cases x with
   |lit l=>cases l<;>simp [Rows.uptoBulk]
   |_=>simp [Rows.uptoBulk]
  simp only [Rows.uptoBulkAll,List.length_cons];omega
theorem build {α β:Type} {R:Nat→β→α→Prop}: ∀ (elems:List β) (s:Nat),(∀i d,elems[i]? =some d→ ∃x,R (s+i) d x)→ ∃l:List α,l.length=elems.length∧ ∀i d,elems[i]? =some d→ ∃x,l[i]? =some x∧R (s+i) d x:=by
 intro elems
 induction elems with
 |nil=>intro s h;exact ⟨[],rfl,fun i d h=>by simp at h⟩
 |cons d r ih=>
  intro s h
  obtain ⟨x,hx⟩:=h 0 d rfl
  obtain ⟨l,hl,hr⟩:=ih (s+1) fun i d' hd=>by
   obtain ⟨x,hx⟩:=h (i+1) d' (by simpa using hd)
   exact ⟨x,by rw [show s+1+i=s+(i+1) by omega];exact hx⟩
  refine ⟨x::l,by simp [hl],fun i d' hd=> ?_⟩
  cases i with
  |zero=>injection hd with hd;subst hd;exact ⟨x,rfl,hx⟩
  |succ i=>
   obtain ⟨y,hy,hr⟩:=hr i d' (by simpa using hd)
   exact ⟨y,by simpa using hy,by rw [show s+(i+1)=s+1+i by omega];exact hr⟩
theorem DL (hN: ∀b o,¬N b o) {e:ET} {tS tE:TypeId} (ht:Tryz.prog.underlying tS=some (.slice tE)) (hc:Tryz.prog.cellsOf tE=oR e) {Q:EL e→DataW H→Prop} {n:Nat} {cs:List Value} {d:DataW H} {pl:List MemPlace}
  (hel: ∀ (cs:List Value) (d:DataW H) (pl:List MemPlace),jv enc w base spare held n tE cs=some (d,pl)→ ∃x:EL e,nR o w N g e x cs∧Q x d) (h:jv enc w base spare held (n+1) tS cs=some (d,pl)):
  ∃ (v:Value) (l:List (EL e)) (ds:List (DataW H)),cs=[v]∧Rep (LL o) w N g v (.sl (U:=UU) e l .none)∧l.length=ds.length∧(∀ (i:Nat) (x:EL e) (y:DataW H),l[i]? =some x→ds[i]? =some y→Q x y)∧Rows.uptoBulkAll ds+1≤Rows.uptoBulk d:=by
 rcases DataW.trod_slice ht h with ⟨rfl,hx⟩|⟨a,len,cap,elems,rest,m,hm,rfl,hx,hb,hl,hcp,hlen,hee,_,_⟩
 ·injection hx with hx _
  subst hx
  exact ⟨_,[],[],rfl,Rep.sl (X:=LL o) (N:=N) (g:=g) none 0 0 e (show List (EL e) from []) .none (fun _ _=>undef) rfl (Nat.le_refl _) trivial (fun j x hx=>by cases hx) (fun j x hx=>by cases hx),rfl,fun i x y h=>by simp at h,by simp [Rows.uptoBulkAll,Rows.uptoBulk]⟩
 ·obtain rfl:n=m:=by omega
  injection hx with hx _
  subst hx
  obtain ⟨l,hll,hlr⟩:=build (R:=fun i (y:DataW H×List MemPlace) (x:EL e)=> ∃cs',w.cells? base (a.add (i*Tryz.prog.cellsOf tE)) (Tryz.prog.cellsOf tE)=some cs'∧nR o w N g e x cs'∧Q x y.1) elems 0 fun i y hy=>by
   have hi:i<len:=by rw [←hlen];exact (List.getElem?_eq_some_iff.1 hy).1
   have:=hee i hi
   rw [hy] at this
   obtain ⟨cs',h1,h2⟩:=Option.bind_eq_some_iff.1 this
   obtain ⟨x,hx1,hx2⟩:=hel cs' y.1 y.2 h2
   exact ⟨x,cs',by simpa using h1,hx1,hx2⟩
  have hget: ∀ (j:Nat) (x:EL e),l[j]? =some x→ ∃ (y:DataW H×List MemPlace) (cs':List Value),elems[j]? =some y∧w.cells? base (a.add (j*Tryz.prog.cellsOf tE)) (Tryz.prog.cellsOf tE)=some cs'∧nR o w N g e x cs'∧Q x y.1:=fun j x hx=>by
   have hj:j<elems.length:=by rw [←hll];exact (List.getElem?_eq_some_iff.1 hx).1
   obtain ⟨x',hx',cs',h1,h2,h3⟩:=hlr j _ (List.getElem?_eq_getElem hj)
   rw [hx] at hx'
   injection hx' with hx'
   subst hx'
   exact ⟨_,cs',List.getElem?_eq_getElem hj,by simpa using h1,h2,h3⟩
  have hcell: ∀ (j:Nat) (x:EL e),l[j]? =some x→ ∀ (k:Nat) (p:PU),(dy e x)[k]? =some p→ ∃v,w.cell? (a.add (j*(LL o).esize e+k))=some v∧Rep (LL o) w N g v p:=fun j x hx k p hp=>by
   obtain ⟨y,cs',_,h1,h2,_⟩:=hget j x hx
   obtain ⟨v,hv,hr⟩:=h2 k p hp
   obtain ⟨_,hl',hcs⟩:=World.cells?_some h1
   have hk:k<Tryz.prog.cellsOf tE:=by rw [←hl'];exact (List.getElem?_eq_some_iff.1 hv).1
   have:=hcs k hk
   rw [hv,Go.Deep.add_add,hc] at this
   exact ⟨v,this,hr⟩
  refine ⟨_,l,elems.map (·.1),rfl,Rep.sl (X:=LL o) (some a) len cap e l .none (fun j k=>(w.cell? (a.add (j*(LL o).esize e+k))).getD undef) (by rw [←hlen];exact hll) hl trivial (fun j x hx k p hp=> ?_) (fun j x hx k p hp=> ?_),by simpa using hll,fun i x y hx hy=> ?_,by simp [Rows.uptoBulk]⟩
  ·obtain ⟨v,hv,_⟩:=hcell j x hx k p hp
   exact ⟨a,rfl,by simp [hv],hN _ _⟩
  ·obtain ⟨v,hv,hr⟩:=hcell j x hx k p hp
   simp only [hv];exact hr
  ·obtain ⟨y',cs',h1,_,_,h3⟩:=hget i x hx
   have:y=y'.1:=by
    rw [List.getElem?_map,h1] at hy
    injection hy with hy;exact hy.symm
   subst this
   exact h3
theorem Ll {n:Nat} {cs:List Value} {d:DataW H} {pl:List MemPlace} (h:jv enc w base spare held n 3 cs=some (d,pl)): ∃z,cs=[.int .i64 z]∧aF z:=by
 obtain ⟨z,rfl,_,hw⟩:=DataW.trod_int Tryz.underlying3 h
 refine ⟨z,rfl, ?_⟩
 simp [Lit.wf,IntKind.has] at hw
 have h1:IntKind.i64.min= -9223372036854775808:=rfl
 have h2:IntKind.i64.max=9223372036854775807:=rfl
 unfold aF
 omega
theorem Lm {n:Nat} {cs:List Value} {d:DataW H} {pl:List MemPlace} (h:jv enc w base spare held n 55 cs=some (d,pl)): ∃z,cs=[.int .u32 z]∧U32 z:=by
 obtain ⟨z,rfl,_,hw⟩:=DataW.trod_int Tryz.underlying55 h
 refine ⟨z,rfl, ?_⟩
 simp [Lit.wf,IntKind.has] at hw
 have h1:IntKind.u32.min=0:=rfl
 have h2:IntKind.u32.max=4294967295:=rfl
 unfold U32
 omega
def QC (c:Cl) (d:DataW H):Prop:=aU c
def QT (t:Tm) (d:DataW H):Prop:=ax t≤Rows.uptoBulk d∧(Rows.uptoBulk d<1073741824→OkT t)
def QB (b:Br Tm) (d:DataW H):Prop:=iA b≤Rows.uptoBulk d∧(Rows.uptoBulk d<1073741824→(am b.face∧b.face.length<1073741824∧b.kids.length<1073741824)∧ ∀t∈b.kids,OkT t)
theorem adg {n:Nat} {cs:List Value} {d:DataW H} {pl:List MemPlace} (h:jv enc w base spare held n 61 cs=some (d,pl)): ∃x:EL ET.C,nR o w N g ET.C x cs∧QC (show Cl from x) d:=by
 obtain ⟨xs,m,rfl,_,hl,hlen,hf⟩:=DataW.trod_struct Tryz.underlying61 h
 have hl2:cs.length=2:=hl.trans (by kernel_rfl)
 match cs,hl2,xs,hlen with
 |[a,b],_,[y0,y1],_=>
 have h0:=hf 0 _ rfl
 have h1:=hf 1 _ rfl
 have c55:Tryz.prog.cellsOf 55=1:=by kernel_rfl
 simp [c55] at h0 h1
 obtain ⟨z0,e0,k0⟩:=Lm h0
 obtain ⟨z1,e1,k1⟩:=Lm h1
 obtain rfl:a= .int .u32 z0:=by simpa using e0
 obtain rfl:b= .int .u32 z1:=by simpa using e1
 refine ⟨(⟨z0,z1⟩:Cl),fun k p hp=> ?_,⟨k0,k1⟩⟩
 match k,hp with
 |0,hp=>cases hp;exact ⟨_,rfl,.int _ _⟩
 |1,hp=>cases hp;exact ⟨_,rfl,.int _ _⟩
 |k+2,hp=>simp [dy] at hp
theorem afZ {l:List Tm} {ds:List (DataW H)} (hl:l.length=ds.length) (h: ∀ (i:Nat) (x:Tm) (y:DataW H),l[i]? =some x→ds[i]? =some y→QT x y):aw l≤Rows.uptoBulkAll ds∧(Rows.uptoBulkAll ds<1073741824→ ∀t∈l,OkT t):=by
 induction l generalizing ds with
 |nil=>rw [aw];exact ⟨Nat.zero_le _,fun _ t ht=>by cases ht⟩
 |cons t l ih=>
  cases ds with
  |nil=>cases hl
  |cons d ds=>
   obtain ⟨h1,h2⟩:=h 0 t d rfl rfl
   obtain ⟨i1,i2⟩:=ih (ds:=ds) (by simpa using hl) fun i x y hx hy=>h (i+1) x y (by simpa using hx) (by simpa using hy)
   rw [aw,Rows.uptoBulkAll]
   refine ⟨by omega,fun hb u hu=> ?_⟩
   rcases List.mem_cons.1 hu with rfl|hu
   ·exact h2 (by omega)
   ·exact i2 (by omega) u hu
theorem af0 {l:List (Br Tm)} {ds:List (DataW H)} (hl:l.length=ds.length) (h: ∀ (i:Nat) (x:Br Tm) (y:DataW H),l[i]? =some x→ds[i]? =some y→QB x y):aI l≤Rows.uptoBulkAll ds∧(Rows.uptoBulkAll ds<1073741824→bu l):=by
 induction l generalizing ds with
 |nil=>rw [aI,bu];exact ⟨Nat.zero_le _,fun _=>trivial⟩
 |cons t l ih=>
  cases ds with
  |nil=>cases hl
  |cons d ds=>
   obtain ⟨h1,h2⟩:=h 0 t d rfl rfl
   obtain ⟨i1,i2⟩:=ih (ds:=ds) (by simpa using hl) fun i x y hx hy=>h (i+1) x y (by simpa using hx) (by simpa using hy)
   rw [aI,Rows.uptoBulkAll,bu,nx]
   exact ⟨by omega,fun hb=>⟨h2 (by omega),i2 (by omega)⟩⟩
theorem DK (hN: ∀b o,¬N b o) {n:Nat} {cs:List Value} {d:DataW H} {pl:List MemPlace} (h:jv enc w base spare held n 22 cs=some (d,pl)):
  ∃ (v:Value) (l:List Cl),cs=[v]∧Rep (LL o) w N g v (cE l .none)∧am l∧l.length+1≤Rows.uptoBulk d:=by
 cases n with
 |zero=>cases h
 |succ n=>
  obtain ⟨v,l,ds,rfl,hr,hl,hq,hb⟩:=DL (e:=ET.C) (Q:=fun x d=>QC (show Cl from x) d) hN Tryz.underlying22 (by kernel_rfl) (fun cs d pl h=>adg h) h
  refine ⟨v,l,rfl,hr,fun c hc=> ?_, ?_⟩
  ·obtain ⟨i,hi⟩:=List.getElem?_of_mem hc
   have hlt:i<ds.length:=by rw [←hl];exact (List.getElem?_eq_some_iff.1 hi).1
   exact hq i c _ hi (List.getElem?_eq_getElem hlt)
  ·have:=Bu (l:=ds)
   have hl': @List.length Cl l=ds.length:=hl
   omega
theorem Lk (hN: ∀b o,¬N b o): ∀ (n:Nat),
  (∀ (cs:List Value) (d:DataW H) (pl:List MemPlace),jv enc w base spare held n 26 cs=some (d,pl)→ ∃x:EL ET.T,nR o w N g ET.T x cs∧QT (show Tm from x) d)∧
  (∀ (cs:List Value) (d:DataW H) (pl:List MemPlace),jv enc w base spare held n 63 cs=some (d,pl)→ ∃x:EL ET.B,nR o w N g ET.B x cs∧QB (show Br Tm from x) d)∧
  (∀ (cs:List Value) (d:DataW H) (pl:List MemPlace),jv enc w base spare held n 23 cs=some (d,pl)→ ∃ (v:Value) (l:List Tm),cs=[v]∧Rep (LL o) w N g v (gE l .none)∧aw l+1≤Rows.uptoBulk d∧l.length+1≤Rows.uptoBulk d∧(Rows.uptoBulk d<1073741824→ ∀t∈l,OkT t))∧
  (∀ (cs:List Value) (d:DataW H) (pl:List MemPlace),jv enc w base spare held n 24 cs=some (d,pl)→ ∃ (v:Value) (l:List (Br Tm)),cs=[v]∧Rep (LL o) w N g v (fy l .none)∧aI l+1≤Rows.uptoBulk d∧l.length+1≤Rows.uptoBulk d∧(Rows.uptoBulk d<1073741824→bu l)):=by
 intro n
 induction n with
 |zero=>exact ⟨fun cs d pl h=>(by cases h),fun cs d pl h=>(by cases h),fun cs d pl h=>(by cases h),fun cs d pl h=>(by cases h)⟩
 |succ n ih=>
 obtain ⟨iT,iB,iK,iS⟩:=ih
 have c3:Tryz.prog.cellsOf 3=1:=by kernel_rfl
 have c9:Tryz.prog.cellsOf 9=1:=by kernel_rfl
 have c22:Tryz.prog.cellsOf 22=1:=by kernel_rfl
 have c23:Tryz.prog.cellsOf 23=1:=by kernel_rfl
 have c24:Tryz.prog.cellsOf 24=1:=by kernel_rfl
 refine ⟨fun cs d pl h=> ?_,fun cs d pl h=> ?_,fun cs d pl h=> ?_,fun cs d pl h=> ?_⟩
 ·obtain ⟨xs,m,hm,hx,hl,hlen,hf⟩:=DataW.trod_struct Tryz.underlying26 h
  obtain rfl:n=m:=by omega
  injection hx with hx _
  subst hx
  have hl6:cs.length=6:=hl.trans (by kernel_rfl)
  match cs,hl6,xs,hlen with
  |[a0,a1,a2,a3,a4,a5],_,[y0,y1,y2,y3,y4,y5],_=>
  have h0:=hf 0 _ rfl
  have h1:=hf 1 _ rfl
  have h2:=hf 2 _ rfl
  have h3:=hf 3 _ rfl
  have h4:=hf 4 _ rfl
  have h5:=hf 5 _ rfl
  simp [c3,c9,c22,c23,c24] at h0 h1 h2 h3 h4 h5
  obtain ⟨z0,e0,k0⟩:=Ll h0
  obtain ⟨z1,e1,k1⟩:=Ll h1
  obtain ⟨s,e2,k2,_⟩:=DataW.trod_string Tryz.underlying9 h2
  obtain ⟨v3,l3,e3,r3,k3,m3⟩:=DK (o:=o) (g:=g) hN h3
  obtain ⟨v4,l4,e4,r4,k4,m4,q4⟩:=iK _ _ _ h4
  obtain ⟨v5,l5,e5,r5,k5,m5,q5⟩:=iS _ _ _ h5
  obtain rfl:a0= .int .i64 z0:=by simpa using e0
  obtain rfl:a1= .int .i64 z1:=by simpa using e1
  obtain rfl:a2= .string s:=by simpa using e2
  obtain rfl:a3=v3:=by simpa using e3
  obtain rfl:a4=v4:=by simpa using e4
  obtain rfl:a5=v5:=by simpa using e5
  have hs:s.size<Rows.uptoBulk y2.1:=by
   rw [k2]
   simp [Rows.uptoBulk]
  refine ⟨Tm.mk z0 z1 s l3 l4 l5,fun k p hp=> ?_, ?_,fun hb=> ?_⟩
  ·match k,hp with
   |0,hp=>cases hp;exact ⟨_,rfl,.int _ _⟩
   |1,hp=>cases hp;exact ⟨_,rfl,.int _ _⟩
   |2,hp=>cases hp;exact ⟨_,rfl,.str _⟩
   |3,hp=>cases hp;exact ⟨_,rfl,r3⟩
   |4,hp=>cases hp;exact ⟨_,rfl,r4⟩
   |5,hp=>cases hp;exact ⟨_,rfl,r5⟩
   |k+6,hp=>simp [dy] at hp
  ·show ax _≤_
   rw [ax]
   simp only [List.map_cons,List.map_nil,Rows.uptoBulk,Rows.uptoBulkAll]
   omega
  ·simp only [List.map_cons,List.map_nil,Rows.uptoBulk,Rows.uptoBulkAll] at hb
   show OkT _
   rw [OkT,okK_iff]
   exact ⟨⟨k0,k1,by omega,k3,by omega,by omega,by omega⟩,q4 (by omega),q5 (by omega)⟩
 ·obtain ⟨xs,m,hm,hx,hl,hlen,hf⟩:=DataW.trod_struct Tryz.underlying63 h
  obtain rfl:n=m:=by omega
  injection hx with hx _
  subst hx
  have hl2:cs.length=2:=hl.trans (by kernel_rfl)
  match cs,hl2,xs,hlen with
  |[a0,a1],_,[y0,y1],_=>
  have h0:=hf 0 _ rfl
  have h1:=hf 1 _ rfl
  simp [c22,c23] at h0 h1
  obtain ⟨v3,l3,e3,r3,k3,m3⟩:=DK (o:=o) (g:=g) hN h0
  obtain ⟨v4,l4,e4,r4,k4,m4,q4⟩:=iK _ _ _ h1
  obtain rfl:a0=v3:=by simpa using e3
  obtain rfl:a1=v4:=by simpa using e4
  refine ⟨Br.mk l3 l4,fun k p hp=> ?_, ?_,fun hb=> ?_⟩
  ·match k,hp with
   |0,hp=>cases hp;exact ⟨_,rfl,r3⟩
   |1,hp=>cases hp;exact ⟨_,rfl,r4⟩
   |k+2,hp=>simp [dy] at hp
  ·show iA _≤_
   rw [iA]
   simp only [List.map_cons,List.map_nil,Rows.uptoBulk,Rows.uptoBulkAll]
   omega
  ·simp only [List.map_cons,List.map_nil,Rows.uptoBulk,Rows.uptoBulkAll] at hb
   exact ⟨⟨k3,by show l3.length<_;omega,by show l4.length<_;omega⟩,q4 (by omega)⟩
 ·obtain ⟨v,l,ds,rfl,hr,hl,hq,hb⟩:=DL (e:=ET.T) (Q:=fun x d=>QT (show Tm from x) d) hN Tryz.underlying23 (by kernel_rfl) iT h
  obtain ⟨s1,s2⟩:=afZ (l:=l) hl hq
  have:=Bu (l:=ds)
  have hl': @List.length Tm l=ds.length:=hl
  exact ⟨v,l,rfl,hr,by omega,by omega,fun hd=>s2 (by omega)⟩
 ·obtain ⟨v,l,ds,rfl,hr,hl,hq,hb⟩:=DL (e:=ET.B) (Q:=fun x d=>QB (show Br Tm from x) d) hN Tryz.underlying24 (by kernel_rfl) iB h
  obtain ⟨s1,s2⟩:=af0 (l:=l) hl hq
  have:=Bu (l:=ds)
  have hl': @List.length (Br Tm) l=ds.length:=hl
  exact ⟨v,l,rfl,hr,by omega,by omega,fun hd=>s2 (by omega)⟩
end
end Go.Proofs.YtapmagaejigpnaaGreatDoor
namespace Go.Proofs
open Go.Shelf
def Tryz.sortCl_ren:Go.Shelf.Ren:=⟨fun|6=>151|15=>195|14=>194|28=>221|29=>222|20=>213|21=>214|22=>215|23=>216|24=>217|25=>218|26=>219|27=>220|46=>229|47=>230|48=>231|49=>232|50=>233|57=>242|n=>n,fun|22=>22|24=>61|25=>152|3=>3|39=>57|0=>0|53=>55|55=>168|4=>4|46=>184|45=>183|50=>188|5=>5|9=>9|66=>193|70=>197|76=>202|77=>124|n=>n,fun|n=>n⟩
theorem Tryz.sortCl:Go.Proofs.SlLaysF0.n6 Tryz.prog Tryz.sortCl_ren:={
 mixed:=by kernel_rfl
 f6:=⟨Tryz.f151.name,by decide,Tryz.func151.trans (congrArg some (by kernel_rfl))⟩
 f14:=⟨Tryz.f194.name,by decide,Tryz.func194.trans (congrArg some (by kernel_rfl))⟩
 f15:=Tryz.func195.trans (congrArg some (by kernel_rfl))
 f20:=⟨Tryz.f213.name,by decide,Tryz.func213.trans (congrArg some (by kernel_rfl))⟩
 f21:=⟨Tryz.f214.name,by decide,Tryz.func214.trans (congrArg some (by kernel_rfl))⟩
 f22:=⟨Tryz.f215.name,by decide,Tryz.func215.trans (congrArg some (by kernel_rfl))⟩
 f23:=⟨Tryz.f216.name,by decide,Tryz.func216.trans (congrArg some (by kernel_rfl))⟩
 f24:=⟨Tryz.f217.name,by decide,Tryz.func217.trans (congrArg some (by kernel_rfl))⟩
 f25:=⟨Tryz.f218.name,by decide,Tryz.func218.trans (congrArg some (by kernel_rfl))⟩
 f26:=⟨Tryz.f219.name,by decide,Tryz.func219.trans (congrArg some (by kernel_rfl))⟩
 f27:=⟨Tryz.f220.name,by decide,Tryz.func220.trans (congrArg some (by kernel_rfl))⟩
 f28:=Tryz.func221.trans (congrArg some (by kernel_rfl))
 f29:=Tryz.func222.trans (congrArg some (by kernel_rfl))
 f46:=⟨Tryz.f229.name,by decide,Tryz.func229.trans (congrArg some (by kernel_rfl))⟩
 f47:=Tryz.func230.trans (congrArg some (by kernel_rfl))
 f48:=Tryz.func231.trans (congrArg some (by kernel_rfl))
 f49:=⟨Tryz.f232.name,by decide,Tryz.func232.trans (congrArg some (by kernel_rfl))⟩
 f50:=⟨Tryz.f233.name,by decide,Tryz.func233.trans (congrArg some (by kernel_rfl))⟩
 f57:=⟨Tryz.f242.name,by decide,Tryz.func242.trans (congrArg some (by kernel_rfl))⟩
 t0:=Tryz.underlying0
 a0:=Tryz.isAgg0
 z0:=Tryz.sizeOf0
 v0:=Tryz.zeroValue0
 t3:=Tryz.underlying3
 a3:=Tryz.isAgg3
 z3:=Tryz.sizeOf3
 v3:=Tryz.zeroValue3
 t4:=Tryz.underlying4
 a4:=Tryz.isAgg4
 z4:=Tryz.sizeOf4
 v4:=Tryz.zeroValue4
 t5:=Tryz.underlying5
 a5:=Tryz.isAgg5
 z5:=Tryz.sizeOf5
 v5:=Tryz.zeroValue5
 t9:=Tryz.underlying9
 a9:=Tryz.isAgg9
 z9:=Tryz.sizeOf9
 v9:=Tryz.zeroValue9
 t22:=Tryz.underlying22
 a22:=Tryz.isAgg22
 z22:=Tryz.sizeOf22
 v22:=Tryz.zeroValue22
 t25:=Tryz.underlying152
 a25:=Tryz.isAgg152
 z25:=Tryz.sizeOf152
 v25:=Tryz.zeroValue152
 t39:=Tryz.underlying57
 a39:=Tryz.isAgg57
 z39:=Tryz.sizeOf57
 v39:=Tryz.zeroValue57
 t45:=Tryz.underlying183
 a45:=Tryz.isAgg183
 z45:=Tryz.sizeOf183
 v45:=Tryz.zeroValue183
 t46:=Tryz.underlying184
 a46:=Tryz.isAgg184
 z46:=Tryz.sizeOf184
 v46:=Tryz.zeroValue184
 t50:=Tryz.underlying188
 a50:=Tryz.isAgg188
 z50:=Tryz.sizeOf188
 v50:=Tryz.zeroValue188
 t53:=Tryz.underlying55
 a53:=Tryz.isAgg55
 z53:=Tryz.sizeOf55
 v53:=Tryz.zeroValue55
 t55:=Tryz.underlying168
 a55:=Tryz.isAgg168
 z55:=Tryz.sizeOf168
 v55:=Tryz.zeroValue168
 t66:=Tryz.underlying193
 a66:=Tryz.isAgg193
 z66:=Tryz.sizeOf193
 v66:=Tryz.zeroValue193
 t70:=Tryz.underlying197
 a70:=Tryz.isAgg197
 z70:=Tryz.sizeOf197
 v70:=Tryz.zeroValue197
 t76:=Tryz.underlying202
 a76:=Tryz.isAgg202
 z76:=Tryz.sizeOf202
 v76:=Tryz.zeroValue202
 t77:=Tryz.underlying124
 a77:=Tryz.isAgg124
 z77:=Tryz.sizeOf124
 v77:=Tryz.zeroValue124}
end Go.Proofs
namespace Go.Proofs.YtapmagaejigpnaaGreatDoor
open Go PI
set_option linter.unusedVariables false
set_option maxRecDepth 100000
noncomputable section
def Za:Nat:=224
def ag_:Nat:=234
def aha:Nat:=243
def ag8:Nat:=244
def Zb:Nat:=114
def ag7:Nat:=151
def ag9:Nat:=152
noncomputable def EP {S:Type}:List PU→List (Box UU)→(Out UU→Option S)→Option S
 |[.int .u32 y0],[],κ=>ui y0 fun r=>κ (.ret (mb r .none) [])
 |_,_,_=> .none
noncomputable def EQ {S:Type}:List PU→List (Box UU)→(Out UU→Option S)→Option S
 |[.sl .C y0 .none],[],κ=>p_ y0 fun r=>κ (.ret (cE r .none) [])
 |_,_,_=> .none
end
end Go.Proofs.YtapmagaejigpnaaGreatDoor
namespace Go.Proofs
open Go.Shelf Go.RowKit
set_option maxHeartbeats 1000000 in
theorem Tryz.tz32_core (x k idx:Nat) (w:World) (hx0:((x:Int)==0)=false)
  (key:bits BinOp.and IntKind.u32 (x:Int) (-(x:Int)%4294967296)*125613361%4294967296/134217728=(idx:Int))
  (hi:idx<32) (hk:k<32) (hcell:w.cell? ⟨0,idx,none⟩=some (.int .u8 k)):
  Calls Tryz.prog 244 #[.int .u32 x] w fun e w'=>e= .returned (.int .i64 k)∧w'=w:=by
 go_enter Tryz.func244,Tryz.ntmps244
 go_wp2_with (simp only [key])
 go_ret
 exact ⟨rfl,rfl⟩
theorem Tryz.tz32 (x:Nat) (hx:x<4294967296) (h0:x≠0) (w:World) (hT:TabAt 0 Lib.deBruijn32tab w):
  Calls Tryz.prog 244 #[.int .u32 x] w fun e w'=>e= .returned (.int .i64 (Lib.ctz 32 x))∧w'=w:=by
 obtain ⟨hlow,hk⟩:=Lib.lowest_bit 32 x h0 hx
 obtain ⟨hi,htab⟩:=Lib.deBruijn32_at _ hk
 have hcell:=hT _ hi
 rw [htab] at hcell
 exact Tryz.tz32_core x _ _ w (by simp;omega) (tz32_key x _ hx h0 hlow) hi hk hcell
end Go.Proofs
namespace Go.Proofs.YtapmagaejigpnaaGreatDoor
open Go Go.Shelf Go.RowKit
attribute [local go_sem] Oper.semAt_some
def eM (s:Nat):List Nat:=(List.range 24).filter s.testBit
theorem agq (s:Nat) (h0:s≠0) (h:s<16777216):eM s=Lib.ctz 32 s::eM (s&&&(s-1))∧s&&&(s-1)<s:=by
 obtain ⟨m,hm,hk⟩:=Lib.ctzFrom_spec 32 s (by omega) (by omega)
 have e:Lib.ctz 32 s=Lib.ctzFrom 32 s:=by simp [Lib.ctz,h0]
 rw [e]
 generalize Lib.ctzFrom 32 s=t at hm hk
 have hs:s=2^(t+1)*m+2^t:=by
  rw [hm,Nat.mul_add,Nat.mul_one,Nat.pow_succ,←Nat.mul_assoc]
 have hp:0<2^t:=Nat.two_pow_pos t
 have hp2:2^(t+1)=2^t*2:=Nat.pow_succ 2 t
 have hs1:s-1=2^(t+1)*m+(2^t-1):=by omega
 have b1: ∀j,s.testBit j=if j<t+1 then decide (t=j) else m.testBit (j-(t+1)):=fun j=>by
  rw [hs,Nat.testBit_two_pow_mul_add _ (by omega),Nat.testBit_two_pow]
 have b2: ∀j,(s-1).testBit j=if j<t+1 then decide (j<t) else m.testBit (j-(t+1)):=fun j=>by
  rw [hs1,Nat.testBit_two_pow_mul_add _ (by omega),Nat.testBit_two_pow_sub_one]
 have b3: ∀j,(s&&&(s-1)).testBit j=if j<t+1 then false else m.testBit (j-(t+1)):=fun j=>by
  rw [Nat.testBit_and,b1,b2]
  by_cases hj:j<t+1
  ·rw [if_pos hj,if_pos hj,if_pos hj]
   by_cases ht:t=j
   ·rw [decide_eq_true ht,decide_eq_false (by omega)];rfl
   ·rw [decide_eq_false ht];rfl
  ·rw [if_neg hj,if_neg hj,if_neg hj,Bool.and_self]
 have b4:s&&&(s-1)=2^(t+1)*m:=by
  apply Nat.eq_of_testBit_eq
  intro j
  rw [b3]
  have:2^(t+1)*m=2^(t+1)*m+0:=rfl
  rw [this,Nat.testBit_two_pow_mul_add _ (by omega),Nat.zero_testBit]
 have ht:t<24:=by
  apply Nat.lt_of_not_le
  intro hle
  have:2^24≤2^t:=Nat.pow_le_pow_right (by decide) hle
  have h24:(2:Nat)^24=16777216:=by decide
  omega
 refine ⟨?_,by omega⟩
 unfold eM
 have hr:List.range 24=List.range t++(t::(List.range (23-t)).map (fun j=>t+1+j)):=by
  apply List.ext_getElem
  ·simp;omega
  ·intro i h1 h2
   simp only [List.getElem_range]
   by_cases hi:i<t
   ·rw [List.getElem_append_left (by simpa using hi)];simp
   ·rw [List.getElem_append_right (by simpa using hi)]
    simp only [List.length_range]
    by_cases he:i=t
    ·subst he;simp
    ·obtain ⟨d,rfl⟩: ∃d,i=t+1+d:=⟨i-t-1,by omega⟩
     simp only [show t+1+d-t=d+1 by omega,List.getElem_cons_succ,List.getElem_map,List.getElem_range]
 rw [hr,List.filter_append,List.filter_append]
 have f1:(List.range t).filter s.testBit=[]:=List.filter_eq_nil_iff.2 fun j hj=>by
  have:=List.mem_range.1 hj
  rw [b1,if_pos (by omega),decide_eq_false (by omega)];decide
 have f2:(List.range t).filter (s&&&(s-1)).testBit=[]:=List.filter_eq_nil_iff.2 fun j hj=>by
  have:=List.mem_range.1 hj
  rw [b3,if_pos (by omega)];decide
 rw [f1,f2,List.nil_append,List.nil_append,List.filter_cons_of_pos (by rw [b1,if_pos (by omega)];simp),List.filter_cons_of_neg (by rw [b3,if_pos (by omega)];decide)]
 congr 1
 apply List.filter_congr
 intro j hj
 obtain ⟨d,_,rfl⟩:=List.mem_map.1 hj
 rw [b1,b3,if_neg (by omega),if_neg (by omega)]
theorem ago:eM 0=[]:=List.filter_eq_nil_iff.2 fun j _=>by rw [Nat.zero_testBit];decide
theorem agp (s:Nat):(eM s).length≤24:=by
 have:=List.length_filter_le s.testBit (List.range 24)
 simpa [eM] using this
theorem ZC (s:Int) (w:World):Calls Tryz.prog 234 #[.int .u32 s] w fun e w'=>e= .returned (.func (.func 243) #[] #[.pointer (some ⟨w.heap.size,0,none⟩)])∧w'=w.alloc (.cells #[.int .u32 s] 55):=by
 go_enter Tryz.func234,Tryz.ntmps234
 go_wp2
 go_ret
 exact ⟨rfl,rfl⟩
def Di:Code:=(Code.region 3 #[{dst:=some 4,op:=Op.assign (Operand.tmp 7),type:=3,pos:= "mask.go:57",after:= #[],guard:=none}] false)
def Dj:Code:=(Code.block 1 (Code.region 4 #[{dst:=some 8,op:=Op.load 142 (Operand.tmp 3),type:=142,pos:= "mask.go:58",after:= #[],guard:=none},{dst:=some 9,op:=Op.move (Operand.tmp 4),type:=3,pos:= "mask.go:58",after:= #[],guard:=none},{dst:=some 10,op:=Op.buildSlice 142 1 #[(0,Operand.tmp 9)],type:=142,pos:= "mask.go:58",after:= #[{on:=1,ground:=Ground.data}],guard:=none},{dst:=some 11,op:=Op.call {callee:=Callee.builtin Builtin.append,args:= #[Operand.tmp 8,Operand.tmp 10],argTypes:= #[142,142]},type:=142,pos:= "mask.go:58",after:= #[{on:=0,ground:=Ground.data},{on:=2,ground:=Ground.data}],guard:=none},{dst:=none,op:=Op.store 142 (Operand.tmp 3) (Operand.tmp 11),type:=0,pos:= "mask.go:58",after:= #[{on:=3,ground:=Ground.data},{on:=3,ground:=Ground.chain},{on:=0,ground:=Ground.phase},{on:=1,ground:=Ground.phase},{on:=2,ground:=Ground.phase},{on:=3,ground:=Ground.phase}],guard:=none}] false))
def ij (fn:FuncId) (s0:Int) (fv:Value) (Bo D:Nat) (st:LoopState) (pend:Option Code):Loop:=
 {state:=st,pending:=pend,fn,tmps:= #[.int .u32 s0,undef,.slice none 0 0,.pointer (some ⟨Bo,0,none⟩),undef,.int .u32 s0,fv,undef,undef,undef,undef,undef,undef],params:= #[7],assign:=Di,body:=Dj,defers:=D}
def fe (x:Nat):Value:= .int .i64 (x:Int)
structure LsAt (w0:World) (fn:FuncId) (s0:Int) (fv:Value) (Bo l D:Nat) (ss:List Nat) (W:World):Prop where
 box: ∃v,W.heap[Bo]? =some (.cells #[v] 142 (0,0))∧W.ownsRow w0.heap.size 3 1 v ss.length (ss.map fe)
 L:W.heap[l]? =some (.loop (ij fn s0 fv Bo D .ready none))
 K:W.heap[D]? =some (.deferred (some []))
 below:Below w0.heap.size w0 W
theorem qb (W:World) (l:Nat) (o:Obj):W.grownBy (W.putObj l o) (some l):=
 ⟨rfl,rfl,rfl,by simp,fun k _ hk=>World.putObj_heap_other (fun e=>hk (by rw [e]))⟩
theorem Fj (W:World) (b:Nat) (v:Value):W.grownBy (W.setCell ⟨b,0,none⟩ v) (some b):=
 ⟨rfl,rfl,rfl,(KeepsWalks.setCell W _ v).size,fun k _ hk=>Below.heap_setCell _ _ _ k (fun e=>hk (by rw [e]))⟩
theorem lW {W:World} {base:Nat} {e:TypeId} {size:Nat} {v:Value} {k:Nat} {xs:List Value} (h:W.ownsRow base e size v k xs) {j:Nat} {o:Obj} (hj:W.heap[j]? =some o) (hno: ∀cur,o≠ .cells cur e (0,0)):
  v.ownBlock=none∨v.ownBlock≠some j:=by
 rcases h.2 with ⟨rfl,_⟩|⟨g,cap,cur,rfl,_,hgb,_⟩
 ·exact .inl rfl
 ·refine .inr fun e'=> ?_
  have:g=j:=by simpa [Value.ownBlock] using e'
  subst this;rw [hgb] at hj;cases hj;exact hno cur rfl
theorem mA {W:World} {B:Nat} {v:Value} {t:TypeId} (h:W.heap[B]? =some (.cells #[v] t (0,0))):W.cell? ⟨B,0,none⟩=some v∧W.frozen? ⟨B,0,none⟩=false:=by
 constructor<;>simp [World.cell?,World.frozen?,h]
theorem Bq {W:World} {B:Nat} {v:Value} {t:TypeId} (v':Value) (h:W.heap[B]? =some (.cells #[v] t (0,0))):(W.setCell ⟨B,0,none⟩ v').heap[B]? =some (.cells #[v'] t (0,0)):=by
 obtain ⟨hlt,hk⟩:=Array.getElem?_eq_some_iff.1 h
 show (W.heap.modify B _)[B]? =_
 rw [Array.getElem?_eq_getElem (by rw [Array.size_modify];exact hlt),Array.getElem_modify_self,hk]
 rfl
theorem ZD:(Tryz.prog.info? 3).map (fun i=>(i.zero,i.size,i.bytes))=some (some (.int .i64 0),1,8):=by kernel_rfl
set_option maxRecDepth 100000 in
set_option maxHeartbeats 2000000 in
theorem acr (F:Fence) (m:Nat) (w0:World) (fn:FuncId) (hfn:F.fn fn) (s0:Int) (fv:Value) (Bo Bi l D:Nat) (hBl:Bo≠l) (hDl:D≠l) (hDB:D≠Bo) (hBiBo:Bi≠Bo) (hBil:Bi≠l) (h0B:w0.heap.size≤Bo) (h0l:w0.heap.size≤l)
  (ss:List Nat) (x:Nat) (c:Value) (W:World) (h:LsAt w0 fn s0 fv Bo l D ss W) (hi0:W.heap[Bi]? =some (.cells #[c] 55 (0,0))) (hlen:ss.length<24):
  YieldAt F m Tryz.prog l #[fe x] W fun e W'=>e= .returned (.bool true)∧LsAt w0 fn s0 fv Bo l D (ss++[x]) W'∧W'.heap[Bi]? =some (.cells #[c] 55 (0,0)):=by
 obtain ⟨i0,hi,hz0,hz1,hz2⟩:=info_parts ZD
 obtain ⟨v,hv,hrow⟩:=h.box
 refine ⟨fn,#[.int .u32 s0,undef,.slice none 0 0,.pointer (some ⟨Bo,0,none⟩),undef,.int .u32 s0,fv,.int .i64 (x:Int),undef,undef,undef,undef,undef],Di,Dj,by simpa [ij,fe] using run_yield (P:=Tryz.prog) (args:= #[fe x]) h.L rfl,roundIn_of_wpIn hfn ?_⟩
 have hl:l<W.heap.size:=(Array.getElem?_eq_some_iff.1 h.L).1
 have hbr:=run_beginRound (P:=Tryz.prog) h.L rfl
 obtain ⟨W2,hW2⟩: ∃W2,W.putObj l (.loop {ij fn s0 fv Bo D .ready none with state:= .busy})=W2:=⟨_,rfl⟩
 rw [hW2] at hbr
 have hg2:W.grownBy W2 (some l):=by rw [←hW2];exact qb _ _ _
 have hv2:W2.heap[Bo]? =some (.cells #[v] 142 (0,0)):=by rw [←hW2];exact (World.putObj_heap_other hBl).trans hv
 have hi2:W2.heap[Bi]? =some (.cells #[c] 55 (0,0)):=by rw [←hW2];exact (World.putObj_heap_other hBil).trans hi0
 have hK2:W2.heap[D]? =some (.deferred (some [])):=by rw [←hW2];exact (World.putObj_heap_other hDl).trans h.K
 have hL2:W2.heap[l]? =some (.loop {ij fn s0 fv Bo D .ready none with state:= .busy}):=by rw [←hW2];exact World.putObj_heap_same hl
 have hrow2:W2.ownsRow w0.heap.size 3 1 v ss.length (ss.map fe):=hrow.kept hg2 (lW hrow h.L (fun cur e=>by cases e))
 have hb2:Below w0.heap.size w0 W2:=h.below.grown hg2 h.below.size (fun k e=>by cases e;exact h0l)
 obtain ⟨hc2,hf2⟩:=mA hv2
 have hBlt:Bo<W2.heap.size:=(Array.getElem?_eq_some_iff.1 hv2).1
 have hBilt:Bi<W2.heap.size:=(Array.getElem?_eq_some_iff.1 hi2).1
 have hl2:l<W2.heap.size:=(Array.getElem?_eq_some_iff.1 hL2).1
 have hDlt:D<W2.heap.size:=(Array.getElem?_eq_some_iff.1 hK2).1
 have ne_of: ∀ {j:Nat} {o:Obj},W2.heap[j]? =some o→(∀cur,o≠ .cells cur 3 (0,0))→some j≠v.ownBlock:=fun hj hno=>by
  rcases lW hrow2 hj hno with e|e
  ·rw [e];simp
  ·exact fun e'=>e e'.symm
 clear hW2
 have hml:24≤maxLen:=by unfold maxLen;omega
 unfold Di
 gi_wp2_with (rw [Oper.semAt_eq _ _ _ (fun c h=>by cases h)];go_simp;try go_bits)
 unfold Dj
 gi_wp2_with (first
  |(gi_at_builtin;refine wpListIn_append_own _ rfl _ _ 142 rfl w0.heap.size 3 i0 (.int .i64 0) 1 8 Tryz.underlying142 hi hz0 hz1 hz2 rfl (by decide) _ _ _ rfl (hrow2.alloc _) ⟨W2.heap.size,0,none⟩ 1 1 [fe x] rfl rfl (cell_one_new _ _ _) (by simp [Value.oneCell',fe]) (by omega) (by omega) (by have:=hb2.size;simp;omega) ?_;intro v' w3 hown' hg3 hnil3
    have hv3:w3.heap[Bo]? =some (.cells #[v] 142 (0,0)):=(hg3.block Bo (by simp;omega) (ne_of hv2 (fun cur e=>by cases e))).trans ((Below.heap_alloc _ _ Bo hBlt).trans hv2)
    obtain ⟨hc3,hf3⟩:=mA hv3
    obtain ⟨g',cap',cur',rfl,hbase',hgb',hr1,hr2,hr3,hr4⟩: ∃g' cap' cur',v'= .slice (some ⟨g',0,none⟩) (ss.length+1) cap'∧w0.heap.size≤g'∧w3.heap[g']? =some (.cells cur' 3 (0,0))∧ss.length+1≤cap'∧cap'≤maxLen∧cur'.size=cap'*1∧cur'.toList.take ((ss.length+1)*1)=ss.map fe++[fe x]:=by
     rcases hown'.2 with ⟨_,h0⟩|h'
     ·exact absurd h0 (by omega)
     ·exact h'
    go_frame)
  |(rw [Oper.semAt_eq _ _ _ (fun c h=>by cases h)];go_simp;try go_bits))
 have hg3':(W2.alloc (.cells #[fe x] 3)).grownBy w3 v.ownBlock:=hg3
 have hL3:w3.heap[l]? =some (.loop {ij fn s0 fv Bo D .ready none with state:= .busy}):=(hg3'.block l (by simp;omega) (ne_of hL2 (fun cur e=>by cases e))).trans ((Below.heap_alloc _ _ l hl2).trans hL2)
 have hK3:w3.heap[D]? =some (.deferred (some [])):=(hg3'.block D (by simp;omega) (ne_of hK2 (fun cur e=>by cases e))).trans ((Below.heap_alloc _ _ D hDlt).trans hK2)
 have hi3:w3.heap[Bi]? =some (.cells #[c] 55 (0,0)):=(hg3'.block Bi (by simp;omega) (ne_of hi2 (fun cur e=>by cases e))).trans ((Below.heap_alloc _ _ Bi hBilt).trans hi2)
 obtain ⟨w4,hw4⟩: ∃w4,w3.setCell ⟨Bo,0,none⟩ (.slice (some ⟨g',0,none⟩) (ss.length+1) cap')=w4:=⟨_,rfl⟩
 rw [hw4]
 have hg4:w3.grownBy w4 (some Bo):=by rw [←hw4];exact Fj _ _ _
 have hv4:w4.heap[Bo]? =some (.cells #[.slice (some ⟨g',0,none⟩) (ss.length+1) cap'] 142 (0,0)):=by rw [←hw4];exact Bq _ hv3
 have hL4:w4.heap[l]? =some (.loop {ij fn s0 fv Bo D .ready none with state:= .busy}):=(hg4.block l (Array.getElem?_eq_some_iff.1 hL3).1 (fun e=>hBl (by cases e;rfl))).trans hL3
 have hK4:w4.heap[D]? =some (.deferred (some [])):=(hg4.block D (Array.getElem?_eq_some_iff.1 hK3).1 (fun e=>hDB (by cases e;rfl))).trans hK3
 have hi4:w4.heap[Bi]? =some (.cells #[c] 55 (0,0)):=(hg4.block Bi (Array.getElem?_eq_some_iff.1 hi3).1 (fun e=>hBiBo (by cases e;rfl))).trans hi3
 have hrow4:=hown'.kept hg4 (lW hown' hv3 (fun cur e=>by cases e))
 have hl4:l<w4.heap.size:=(Array.getElem?_eq_some_iff.1 hL4).1
 have hb3:Below w0.heap.size w0 w3:=(hb2.alloc hb2.size _).grown hg3' (by have:=hb2.size;simp;omega) (fun k e=>(hrow2.lt k e).1)
 have hb4:Below w0.heap.size w0 w4:=hb3.grown hg4 hb3.size (fun k e=>by cases e;exact h0B)
 clear hw4
 refine ⟨_,_,run_endRound none hL4,rfl,⟨⟨_,(World.putObj_heap_other hBl).trans hv4, ?_⟩,World.putObj_heap_same hl4,(World.putObj_heap_other hDl).trans hK4,hb4.grown (qb _ _ _) hb4.size (fun k e=>by cases e;exact h0l)⟩,(World.putObj_heap_other hBil).trans hi4⟩
 have:=hrow4.kept (qb w4 l (.loop {{ij fn s0 fv Bo D .ready none with state:= .busy} with state:=if (none:Option Code).isNone then .ready else .done,pending:=none})) (lW hrow4 hL4 (fun cur e=>by cases e))
 simpa using this
def Db (Bi:Nat) (w:World):Nat:=match w.cell? ⟨Bi,0,none⟩ with
 |some v=>(intOf v).toNat
 |none=>0
theorem Jr {Bi:Nat} {w:World} {n:Nat} {t:TypeId} (h:w.heap[Bi]? =some (.cells #[.int .u32 (n:Int)] t (0,0))):Db Bi w=n:=by
 unfold Db;rw [(mA h).1];simp [intOf]
theorem We {w0 W:World} (hT:TabAt 0 Lib.deBruijn32tab w0) (hb:Below w0.heap.size w0 W):TabAt 0 Lib.deBruijn32tab W:=fun j hj=>by
 have h:=hT j hj
 have h0:0<w0.heap.size:=World.block_lt_of_cell? w0 ⟨0,j,none⟩ h
 exact (hb.cell (p:=⟨0,j,none⟩) h0).trans h
theorem Wo (s:Int):bits .and .u32 s 16777215=(((BitVec.ofInt 32 s).toNat&&&16777215:Nat):Int):=by
 have hx:(BitVec.ofInt 32 s).toNat&&&16777215<2^32:=Nat.and_lt_two_pow _ (by omega)
 show IntKind.u32.wrap ((BitVec.ofInt 32 s&&&BitVec.ofInt 32 16777215).toNat:Int)=_
 rw [BitVec.toNat_and,wrap_u32',show (BitVec.ofInt 32 16777215).toNat=16777215 from by decide]
 omega
def ig (s:Int):Nat:=(BitVec.ofInt 32 s).toNat&&&16777215
theorem Wp (s:Nat) (h0:s≠0) (h:s<4294967296):bits .and .u32 (s:Int) ((s:Int)-1)=((s&&&(s-1):Nat):Int):=by
 have:(s:Int)-1=((s-1:Nat):Int):=by omega
 rw [this];exact bits_and_u32_nat s (s-1) h (by omega)
set_option maxRecDepth 100000 in
set_option maxHeartbeats 2000000 in
theorem acq (F:Fence) (n:Nat) (h243:F.fn 243) (h244:F.fn 244) (hro:F.round=none) (hn:1≤n) (w0:World) (fn:FuncId) (hfn:F.fn fn) (s0:Int) (fv:Value) (Bo Bi l D:Nat) (hBl:Bo≠l) (hDl:D≠l) (hDB:D≠Bo) (hBiBo:Bi≠Bo) (hBil:Bi≠l) (hBiD:Bi≠D)
  (h0B:w0.heap.size≤Bo) (h0l:w0.heap.size≤l) (h0i:w0.heap.size≤Bi) (hT:TabAt 0 Lib.deBruijn32tab w0) (s:Int) (W:World) (h:LsAt w0 fn s0 fv Bo l D [] W) (hi0:W.heap[Bi]? =some (.cells #[.int .u32 s] 55 (0,0)))
  (htz: ∀ (x:Nat),x<4294967296→x≠0→ ∀W',TabAt 0 Lib.deBruijn32tab W'→CallsIn F (n-1) Tryz.prog 244 #[.int .u32 x] W' fun e w'=>e= .returned (.int .i64 (Lib.ctz 32 x))∧w'=W'):
  CallsIn F n Tryz.prog 243 #[.func (.yield l) #[] #[],.pointer (some ⟨Bi,0,none⟩)] W fun e W'=>(∃v,e= .returned v)∧LsAt w0 fn s0 fv Bo l D (eM (ig s)) W':=by
 obtain ⟨hc0,hf0⟩:=mA hi0
 have ha:bits .and .u32 s 16777215=((ig s:Nat):Int):=Wo s
 have hsl:ig s<16777216:=Nat.lt_of_le_of_lt Nat.and_le_right (by decide)
 generalize ig s=q at ha hsl ⊢
 refine callsIn_of_wp Tryz.func243 rfl h243 ?_ hro
 simp only [Tryz.ntmps243,List.size_toArray,List.length_cons,List.length_nil,Nat.reduceAdd,Nat.reduceSub,Array.replicate_succ,Array.replicate_zero,List.push_toArray,List.append_toArray,List.nil_append,List.cons_append]
 gi_wp2
 have hi1:=Bq (.int .u32 (q:Int)) hi0
 have hA1:LsAt w0 fn s0 fv Bo l D [] (W.setCell ⟨Bi,0,none⟩ (.int .u32 (q:Int))):=by
  obtain ⟨v,hv,hrow⟩:=h.box
  exact ⟨⟨v,(Below.heap_setCell _ _ _ Bo (fun e=>hBiBo e.symm)).trans hv,hrow.kept (Fj _ _ _) (lW hrow hi0 (fun cur e=>by cases e))⟩,(Below.heap_setCell _ _ _ l (fun e=>hBil e.symm)).trans h.L,(Below.heap_setCell _ _ _ D (fun e=>hBiD e.symm)).trans h.K,h.below.setCell h0i _⟩
 gi_loopw [] (fun wr=> ∃ (pre:List Nat) (c:Nat),c<16777216∧pre++eM c=eM q∧LsAt w0 fn s0 fv Bo l D pre wr∧wr.heap[Bi]? =some (.cells #[.int .u32 (c:Int)] 55 (0,0)))
  (fun wr=>Db Bi wr)
 case atStart=>exact ⟨[],q,hsl,rfl,hA1,hi1⟩
 case round=>
  obtain ⟨pre,c,hc,hp,hA,hb⟩:=hrel
  clear hc0 hf0 ha hi1 hA1
  obtain ⟨hc1,hf1⟩:=mA hb
  by_cases hz:c=0
  ·subst hz
   rw [ago,List.append_nil] at hp
   gi_wp2
   go_end0
   exact ⟨⟨_,rfl⟩,hp▸hA⟩
  ·have hne:((c:Int)==0)=false:=by simp;omega
   have hne': ¬ ((c:Int)=0):=by omega
   have hstep:=agq c hz hc
   have hpl:pre.length<24:=by
    have h1:=agp q
    have h2:=congrArg List.length hp
    rw [hstep.1,List.length_append,List.length_cons] at h2
    omega
   obtain ⟨fn',tmps,assign,body,hy,hR⟩:=acr F (n-1) w0 fn hfn s0 fv Bo Bi l D hBl hDl hDB hBiBo hBil h0B h0l pre (Lib.ctz 32 c) (.int .u32 (c:Int)) wr hA hb hpl
   have hT1:=We hT hA.below
   have hap:=Wp c hz (by omega)
   unfold fe at hy
   have hyH:Hid (Lib.ctz 32 c=Lib.ctz 32 c):=rfl
   gi_wp2_with (gi_at_call 244;refine (htz c (by omega) hz _ hT1).mono ?_;rintro e w' ⟨rfl,rfl⟩)
   refine hR.mono ?_
   rintro e W3 ⟨rfl,hA3,hb3⟩
   obtain ⟨hc3,hf3⟩:=mA hb3
   clear hc1 hf1 hA hy hR hT1
   gi_wp2
   have hb4:=Bq (.int .u32 ((c&&&(c-1):Nat):Int)) hb3
   have hlt:=hstep.2
   go_roundw
   case rel=>
    refine ⟨pre++[Lib.ctz 32 c],c&&&(c-1),by omega, ?_, ?_,hb4⟩
    ·rw [←hp,hstep.1,List.append_assoc];rfl
    ·obtain ⟨v,hv,hrow⟩:=hA3.box
     exact ⟨⟨v,(Below.heap_setCell _ _ _ Bo (fun e=>hBiBo e.symm)).trans hv,hrow.kept (Fj _ _ _) (lW hrow hb3 (fun cur e=>by cases e))⟩,(Below.heap_setCell _ _ _ l (fun e=>hBil e.symm)).trans hA3.L,(Below.heap_setCell _ _ _ D (fun e=>hBiD e.symm)).trans hA3.K,hA3.below.setCell h0i _⟩
   case measure=>rw [Jr hb4,Jr hb];exact hlt
set_option maxRecDepth 100000 in
set_option maxHeartbeats 2000000 in
theorem aco (F:Fence) (n:Nat) (h224:F.fn 224) (h234:F.fn 234) (h243:F.fn 243) (h244:F.fn 244) (hro:F.round=none) (hn:3≤n) (s:Int) (w:World) (hT:TabAt 0 Lib.deBruijn32tab w)
  (hin: ∀W,CallsIn F (n-1) Tryz.prog 234 #[.int .u32 s] W fun e w'=>e= .returned (.func (.func 243) #[] #[.pointer (some ⟨W.heap.size,0,none⟩)])∧w'=W.alloc (.cells #[.int .u32 s] 55))
  (htz: ∀ (x:Nat),x<4294967296→x≠0→ ∀W',TabAt 0 Lib.deBruijn32tab W'→CallsIn F (n-1-1) Tryz.prog 244 #[.int .u32 x] W' fun e w'=>e= .returned (.int .i64 (Lib.ctz 32 x))∧w'=W'):
  CallsIn F n Tryz.prog 224 #[.int .u32 s] w fun e w'=> ∃v:Value,e= .returned v∧w'.ownsRow w.heap.size 3 1 v (eM (ig s)).length ((eM (ig s)).map fe)∧Below w.heap.size w w':=by
 have h1:1≤n:=by omega
 have eg: ∀args w,(callFunc 243 args).run Tryz.prog w= .ok (.enter 243 args) w:=enters_of Tryz.func243 (by kernel_rfl) rfl
 refine callsIn_of_wp_marks Tryz.func224 rfl h224 ?_ hro
 simp only [Tryz.ntmps224,List.size_toArray,List.length_cons,List.length_nil,Nat.reduceAdd,Nat.reduceSub,Array.replicate_succ,Array.replicate_zero,List.push_toArray,List.append_toArray,List.nil_append,List.cons_append]
 gi_wp2_with (gi_at_call 234;refine (hin _).mono ?_;rintro e w' ⟨rfl,rfl⟩)
 refine wpIn_rangeFunc ?_
 intro fn hfn
 rw [hro]
 obtain ⟨fv,hfv⟩: ∃fv:Value,fv= .func (.func 243) #[] #[.pointer (some ⟨w.heap.size+1,0,none⟩)]:=⟨_,rfl⟩
 obtain ⟨W0,hW0⟩: ∃W0,(w.alloc (.cells #[.slice none 0 0] 142)).alloc (.cells #[.int .u32 s] 55)=W0:=⟨_,rfl⟩
 have hs0:W0.heap.size=w.heap.size+2:=by rw [←hW0];simp
 have hv0:W0.heap[w.heap.size]? =some (.cells #[.slice none 0 0] 142 (0,0)):=by rw [←hW0];exact (Below.heap_alloc _ _ _ (by simp)).trans (World.alloc_heap_new w _)
 have hi0:W0.heap[w.heap.size+1]? =some (.cells #[.int .u32 s] 55 (0,0)):=by
  rw [←hW0];have:=World.alloc_heap_new (w.alloc (.cells #[.slice none 0 0] 142)) (.cells #[.int .u32 s] 55);rwa [World.size_alloc] at this
 have hb0:Below w.heap.size w W0:=by rw [←hW0];exact ((Below.refl _ w).alloc (Nat.le_refl _) _).alloc (by simp) _
 rw [hW0]
 obtain ⟨W1,hW1⟩: ∃W1,(W0.alloc (.deferred (some []))).alloc (.loop (ij fn s fv w.heap.size W0.heap.size .ready none))=W1:=⟨_,rfl⟩
 have hold: ∀k,k<W0.heap.size→W1.heap[k]? =W0.heap[k]? :=fun k hk=>by
  rw [←hW1];exact (Below.heap_alloc _ _ k (by simp;omega)).trans (Below.heap_alloc _ _ k hk)
 have hb1:Below w.heap.size w W1:=by rw [←hW1];exact (hb0.alloc hb0.size _).alloc (by have:=hb0.size;simp;omega) _
 have hM:LsAt w fn s fv w.heap.size (W0.heap.size+1) W0.heap.size [] W1:=
  ⟨⟨_,(hold w.heap.size (by omega)).trans hv0,⟨rfl,.inl ⟨rfl,rfl⟩⟩⟩,
   by rw [←hW1];have:=World.alloc_heap_new (W0.alloc (.deferred (some []))) (.loop (ij fn s fv w.heap.size W0.heap.size .ready none));rwa [World.size_alloc] at this,
   by rw [←hW1];exact (Below.heap_alloc _ _ _ (by simp)).trans (World.alloc_heap_new W0 _),hb1⟩
 refine ⟨W0.heap.size+1,[{target:= .collected W0.heap.size,args:= #[]}],W1,{target:= .fn (.func 243) #[.pointer (some ⟨w.heap.size+1,0,none⟩)],args:= #[.func (.yield (W0.heap.size+1)) #[] #[]]},W1,243,
  #[.func (.yield (W0.heap.size + 1)) #[] #[]] ++ #[.pointer (some ⟨w.heap.size + 1, 0, none⟩)], W1, ?_, ?_, ?_, ?_, fun _ => h1, ?_⟩
 ·rw [←hW1,hfv];exact run_enterLoop_outer _ _ _ _ _
 ·simp [resolve,go_sem]
 ·intro f' hf';simp [Target.leads] at hf';subst hf';exact h243
 ·simp [invoke,go_sem,eg]
 ·refine (acq F (n-1) h243 h244 hro (by omega) w fn hfn s fv w.heap.size (w.heap.size+1) (W0.heap.size+1) W0.heap.size (by omega) (by omega) (by omega) (by omega) (by omega) (by omega) (Nat.le_refl _) (by omega) (by omega) hT s W1 hM ((hold _ (by omega)).trans hi0) htz).mono ?_
  rintro e W2 ⟨⟨v0,rfl⟩,h2⟩
  obtain ⟨v,hv,hrow⟩:=h2.box
  have hend:=run_endLoop (P:=Tryz.prog) h2.L (by simp [ij])
  obtain ⟨W3,hW3⟩: ∃W3,W2.putObj (W0.heap.size+1) (.loop {ij fn s fv w.heap.size W0.heap.size .ready none with state:= .exhausted})=W3:=⟨_,rfl⟩
  rw [hW3] at hend
  have hg3:W2.grownBy W3 (some (W0.heap.size+1)):=by rw [←hW3];exact qb _ _ _
  have hv3:W3.heap[w.heap.size]? =some (.cells #[v] 142 (0,0)):=by rw [←hW3];exact (World.putObj_heap_other (by omega)).trans hv
  have hK3:W3.heap[W0.heap.size]? =some (.deferred (some [])):=by rw [←hW3];exact (World.putObj_heap_other (by omega)).trans h2.K
  have hrow3:=hrow.kept hg3 (lW hrow h2.L (fun cur e=>by cases e))
  have hb3:Below w.heap.size w W3:=h2.below.grown hg3 h2.below.size (fun k e=>by cases e;omega)
  obtain ⟨hc3,hf3⟩:=mA hv3
  clear hW3
  refine ⟨none,W3,hend, ?_⟩
  clear hfv
  gi_wp2
  rw [show (w.heap.size+1+1)=W0.heap.size by omega]
  refine ⟨by simp,.inl ⟨_,_,rfl,run_takeDeferred hK3, ?_⟩⟩
  exact ⟨_,results_tmp rfl _ _ _,v,rfl,hrow3.kept (qb _ _ _) (lW hrow3 hK3 (fun cur e=>by cases e)),hb3.grown (qb _ _ _) hb3.size (fun k e=>by cases e;omega)⟩
end Go.Proofs.YtapmagaejigpnaaGreatDoor
namespace Go.Proofs.YtapmagaejigpnaaGreatDoor
open Go PI Go.Shelf Go.RowKit
set_option linter.unusedVariables false
set_option linter.unusedSimpArgs false
set_option maxRecDepth 100000
def ag (o:Obj):Prop:= ∃ (cur:Array Value) (e:TypeId) (fr:Nat×Nat),o= .cells cur e fr∧ ∀j,j<Lib.deBruijn32tab.length→cur[j]? =some (.int .u8 (Lib.deBruijn32tab.getD j 0))
theorem af_ {o:Obj} (ho:ag o) {w:World} (h:w.heap[0]? =some o):TabAt 0 Lib.deBruijn32tab w:=fun j hj=>by
 obtain ⟨cur,e,fr,rfl,hc⟩:=ho
 have:=hc j hj
 simp [World.cell?,h,this]
theorem acn (s:Int) (w:World) (hT:TabAt 0 Lib.deBruijn32tab w):Calls Tryz.prog 224 #[.int .u32 s] w fun e w'=> ∃v:Value,e= .returned v∧w'.ownsRow w.heap.size 3 1 v (eM (ig s)).length ((eM (ig s)).map fe)∧Below w.heap.size w w':=
 callsIn_wide.1 (aco Fence.wide 5 trivial trivial trivial trivial rfl (by omega) s w hT (fun W=>callsIn_wide.2 (ZC s W)) fun x hx h0 W' hT'=>callsIn_wide.2 (Tryz.tz32 x hx h0 W' hT'))
theorem acu (s:Int):pW s=(eM (ig s)).map fun n:Nat=>(n:Int):=by
 unfold pW eM ig
 have:(List.range 24).filter ((BitVec.ofInt 32 s).toNat&&&16777215).testBit=(List.range 24).filter fun i=>(BitVec.ofInt 32 s).getLsbD i:=List.filter_congr fun i hi=>by
  have hi:i<24:=List.mem_range.1 hi
  have h24:(16777215:Nat)=2^24-1:=by decide
  rw [Nat.testBit_and,h24,Nat.testBit_two_pow_sub_one,decide_eq_true hi,Bool.and_true];rfl
 rw [this];rfl
theorem Wu {X:Link VV Tryz.prog} {w w':World} {vs:Array Value} {N0:aJ} {ν:Nat→Nat} {δ:Nat→Option Nat} {args:List PU} (hg:Given X w vs N0 ν δ args []) (hb:Below w.heap.size w w'):
  Back X w w' N0 ν δ 0 args.length ν (fun _=>none) [] where
 ext:=⟨hb.os,hb.tape,hb.output,hb.size,fun b hlt _=>hb.block b hlt⟩
 le:=Nat.le_refl _
 old:=fun i h=>absurd h (Nat.not_lt_zero i)
 new:=fun i _ h=>absurd h (Nat.not_lt_zero i)
 dnew:=fun j b h=>by cases h
 bnd:={
  inj:=fun i j h=>absurd h (Nat.not_lt_zero i)
  lt:=fun i h=>absurd h (Nat.not_lt_zero i)
  dlt:=fun j b h=>by cases h
  dinj:=fun i j b h=>by cases h
  dν:=fun j b h=>by cases h
  n0:=fun b o h=>⟨Nat.lt_of_lt_of_le (hg.bnd.n0 b o h).1 hb.size,fun i h=>absurd h (Nat.not_lt_zero i),fun j h=>by cases h⟩}
 boxes:=fun k b h=>by simp at h
theorem agh {S:Type} (o:Obj) (ho:ag o) (vs:List PU) (bs:List (Box UU)) (κ:Out UU→Option S) (x:S) (h:EP vs bs κ=some x): ∃out,ca (LL o) Za vs bs out∧κ out=some x:=by
 unfold EP at h
 split at h
 case h_2=>cases h
 rename_i κ y
 refine ⟨_, ?_,h⟩
 refine ⟨⟨Tryz.f224,Tryz.func224,by kernel_rfl,rfl⟩,fun w vs N0 ν δ hg=> ?_⟩
 have hs:vs.size=1:=hg.size
 have h0:=hg.args 0 _ rfl
 obtain ⟨v0,hv0⟩: ∃v0,vs= #[v0]:=by
  obtain ⟨l⟩:=vs
  match l,hs with
  |[v],_=>exact ⟨v,rfl⟩
 subst hv0
 have h0:Rep (LL o) w _ _ v0 (.int .u32 y):=h0
 cases h0
 have hT:=af_ ho (hg.glob 0 o (by simp [LL])).1
 refine (acn y w hT).mono ?_
 rintro e w' ⟨v,rfl,hrow,hb⟩
 refine ⟨ν,fun _=>none,Wu hg hb, ?_⟩
 show Rep (LL o) w' _ _ v (.sl ET.I (pW y) .none)
 rw [acu]
 generalize eM (ig y)=ts at hrow
 obtain ⟨hl,hr⟩:=hrow
 rcases hr with ⟨rfl,hn⟩|⟨g,cap,cur,rfl,hg0,hgb,hc,hc',hsz,htk⟩
 ·have:ts=[]:=List.length_eq_zero_iff.1 hn
  subst this
  exact .sl none 0 0 _ _ _ (fun _ _=>undef) rfl (Nat.le_refl _) trivial (fun j x hx=>by cases hx) (fun j x hx=>by cases hx)
 ·have hcell: ∀j x,(ts.map fun n:Nat=>(n:Int))[j]? =some x→cur.getD j undef= .int .i64 x∧w'.cell? ⟨g,j,none⟩=some (.int .i64 x):=by
   intro j x hx
   rw [List.getElem?_map] at hx
   cases ht:ts[j]? with
   |none=>rw [ht] at hx;cases hx
   |some n=>
    rw [ht] at hx
    injection hx with hx
    have hj:j<ts.length:=(List.getElem?_eq_some_iff.1 ht).1
    have h1:(cur.toList.take (ts.length*1))[j]? =some (fe n):=by rw [htk,List.getElem?_map,ht];rfl
    rw [List.getElem?_take_of_lt (by omega)] at h1
    have h2:cur[j]? =some (.int .i64 x):=by rw [←Array.getElem?_toList,h1,←hx];rfl
    refine ⟨?_,by simp [World.cell?,hgb,h2]⟩
    rw [Array.getD_eq_getD_getElem?,h2];rfl
  refine Rep.sl (X:=LL o) (some ⟨g,0,none⟩) ts.length cap ET.I (show List Int from ts.map fun n:Nat=>(n:Int)) .none (fun j k=>cur.getD (j+k) undef) (List.length_map _) hc trivial (fun j x hx k p hp=> ?_) (fun j x hx k p hp=> ?_)
  ·match k,hp with
   |0,hp=>
    obtain ⟨h1,h2⟩:=hcell j x hx
    refine ⟨_,rfl, ?_, ?_⟩
    ·have:(⟨g,0,none⟩:Addr).add (j*(LL o).esize ET.I+0)=⟨g,j,none⟩:=by
      rw [Addr.add_lit'];show (⟨g,0+(j*1+0),none⟩:Addr)=_;congr 1;omega
     rw [this,h2];rw [Nat.add_zero,h1]
    ·rintro (hN|⟨i,hi,_⟩|⟨i,hi⟩)
     ·have:=(hg.bnd.n0 _ _ hN).1
      simp at this;omega
     ·exact absurd hi (Nat.not_lt_zero i)
     ·cases hi
   |k+1,hp=>simp [VV,dy] at hp
  ·match k,hp with
   |0,hp=>
    obtain ⟨h1,h2⟩:=hcell j x hx
    rw [Nat.add_zero,h1]
    have:p= .int .i64 x:=by simpa [VV,dy] using hp.symm
    subst this
    exact .int _ _
   |k+1,hp=>simp [VV,dy] at hp
end Go.Proofs.YtapmagaejigpnaaGreatDoor
namespace Go.Proofs.YtapmagaejigpnaaGreatDoor
open Go PI Go.Shelf Go.RowKit Go.Sort
set_option linter.unusedVariables false
set_option linter.unusedSimpArgs false
set_option maxRecDepth 100000
def mC (a b:Int):Int:=if a<b then-1 else if b<a then 1 else 0
def iL (x y:Cl):Int:=if x.pos=y.pos then mC x.neg y.neg else mC x.pos y.pos
def eF (x:Cl):List Value:=[.int .u32 x.pos,.int .u32 x.neg]
theorem CS (a:Int) (W:World):Calls Tryz.prog 223 #[.int .u32 a] W fun e w'=>e= .returned (.bool false)∧w'=W:=by
 go_enter Tryz.func223,Tryz.ntmps223
 go_wp2
 go_ret
 exact ⟨by simp,rfl⟩
set_option maxHeartbeats 1000000 in
theorem Hz (a b:Int) (W:World):Calls Tryz.prog 196 #[.int .u32 a,.int .u32 b] W fun e w'=>e= .returned (.int .i64 (mC a b))∧w'=W:=by
 unfold mC
 by_cases h1:a<b
 ·rw [if_pos h1]
  go_enter Tryz.func196,Tryz.ntmps196
  go_wp2_with (go_at_call 223;refine (CS _ _).mono ?_;rintro e w' ⟨rfl,rfl⟩)
  go_ret
  exact ⟨rfl,rfl⟩
 ·rw [if_neg h1]
  by_cases h2:b<a
  ·rw [if_pos h2]
   go_enter Tryz.func196,Tryz.ntmps196
   go_wp2_with (go_at_call 223;refine (CS _ _).mono ?_;rintro e w' ⟨rfl,rfl⟩)
   go_ret
   exact ⟨rfl,rfl⟩
  ·rw [if_neg h2]
   go_enter Tryz.func196,Tryz.ntmps196
   go_wp2_with (go_at_call 223;refine (CS _ _).mono ?_;rintro e w' ⟨rfl,rfl⟩)
   go_ret
   exact ⟨rfl,rfl⟩
set_option maxHeartbeats 1000000 in
theorem WP (x y:Cl) (W:World):Calls Tryz.prog 152 #[.agg (eF x).toArray,.agg (eF y).toArray] W fun e w'=>e= .returned (.int .i64 (iL x y))∧ ∃q os',w'=grow (W.drewN q) os':=by
 obtain ⟨a,b⟩:=x
 obtain ⟨a',b'⟩:=y
 have h1:=Hz a a'
 have h2:=Hz b b'
 unfold iL
 simp only [eF]
 generalize mC a a'=r1 at h1 ⊢
 generalize mC b b'=r2 at h2 ⊢
 by_cases h:a=a'
 ·rw [if_pos h]
  go_enter Tryz.func152,Tryz.ntmps152
  go_wp2_with (go_at_call 196;refine (h2 _).mono ?_;rintro e w' ⟨rfl,rfl⟩)
  go_ret
  exact ⟨rfl,0,_,by rw [alloc_eq_grow,alloc_eq_grow,grow_grow];rfl⟩
 ·rw [if_neg h]
  go_enter Tryz.func152,Tryz.ntmps152
  go_wp2_with (go_at_call 196;refine (h1 _).mono ?_;rintro e w' ⟨rfl,rfl⟩)
  go_ret
  exact ⟨rfl,0,_,by rw [alloc_eq_grow,alloc_eq_grow,grow_grow];rfl⟩
theorem tG (x y:Cl):ltOf iL x y=(decide (x.pos<y.pos)||(decide (x.pos=y.pos)&&decide (x.neg<y.neg))):=by
 have h:iL x y<0↔(x.pos<y.pos∨x.pos=y.pos∧x.neg<y.neg):=by
  unfold iL mC
  split<;>split<;>first|omega|(split<;>omega)
 rw [Bool.eq_iff_iff]
 simp only [ltOf,decide_eq_true_eq,Bool.or_eq_true,Bool.and_eq_true]
 exact h
theorem af1:SWO (ltOf iL) where
 irrefl x:=by rw [tG];simp
 trans x y z h1 h2:=by rw [tG] at*;simp at*;omega
 ntrans x y z h1 h2:=by rw [tG] at*;simp at*;omega
theorem agk (x y:Cl) (h1:ltOf iL x y=false) (h2:ltOf iL y x=false):x=y:=by
 rw [tG] at*;simp at*
 obtain ⟨a,b⟩:=x
 obtain ⟨a',b'⟩:=y
 simp at*
 omega
theorem Zu:(fun x y:Cl=> !ltOf iL y x)=kL:=by
 funext x y
 rw [tG,Bool.eq_iff_iff]
 simp [kL]
 omega
instance:Inhabited Cl:=⟨⟨0,0⟩⟩
theorem afJ (b c:Nat) (d:List Cl) (w:World) (hH:HoldsK eF 2 w b 0 d.toArray) (hb:b<w.heap.size) (hsz:d.length<4611686018427387904):
  Calls Tryz.prog 151 #[.slice (some ⟨b,0,none⟩) d.length c,.func (.func 152) #[] #[]] w fun e w'=>e= .returned (.tuple #[])∧ ∃n os,w'=sortWorldK eF 2 w b 0 n (sortCl d).toArray os:=by
 have eg: ∀args w,(callFunc 152 args).run Tryz.prog w= .ok (.enter 152 args) w:=enters_of Tryz.func152 (by kernel_rfl) rfl
 have h:=AnyQ.slices_SortFunc_total Tryz.sortCl 2 Tryz.isAgg61 Tryz.sizeOf61 eF (fun _=>rfl) (fun x v hv=>by simp [eF] at hv;rcases hv with rfl|rfl<;>rfl) iL af1 152 #[] b 0 c d.toArray w eg (fun _ _ _ _ x y=>WP x y _) hH hb hsz agk
 rw [Zu] at h
 exact h
theorem afK (p:Option Addr) (c:Nat) (w:World):Calls Tryz.prog 151 #[.slice p 0 c,.func (.func 152) #[] #[]] w fun e w'=>e= .returned (.tuple #[])∧w'=w:=
 AnyF.slices_SortFunc_none Tryz.sortCl p c _ w
theorem afI {m:Nat} {d:Array Cl} {os:Array Obj} {w:World} {b k:Nat} (hk:k<w.heap.size) (hne:k≠b):(sortWorldK eF 2 w b 0 m d os).heap[k]? =w.heap[k]? :=by
 unfold sortWorldK putRowK putRow mapBlock
 rw [heap_grow_old _ _ (by simpa [ahead] using hk)]
 show (w.heap.modify b _)[k]? =_
 rw [Array.getElem?_modify,if_neg (Ne.symm hne)]
theorem afH {m:Nat} {d:Array Cl} {os:Array Obj} {w:World} {b:Nat} {cur:Array Value} {e:TypeId} {fr:Nat×Nat} (h:w.heap[b]? =some (.cells cur e fr)):
  (sortWorldK eF 2 w b 0 m d os).heap[b]? =some (.cells (putCells id 0 (flatK eF 2 d) cur) e fr):=by
 have hb:b<w.heap.size:=(Array.getElem?_eq_some_iff.1 h).1
 unfold sortWorldK putRowK putRow mapBlock
 rw [heap_grow_old _ _ (by simpa [ahead] using hb)]
 show (w.heap.modify b _)[b]? =_
 rw [Array.getElem?_modify,if_pos rfl,h];rfl
theorem WN (x:Cl) {k:Nat} {p:PU} (hp:(dy .C x)[k]? =some p):k<2∧ ∀ (X:Link VV Tryz.prog) (w:World) (N:aJ) (g:Gh UU),Rep X w N g (eF x)[k]! p:=by
 match k,hp with
 |0,hp=>cases hp;exact ⟨by omega,fun X w N g=> .int _ _⟩
 |1,hp=>cases hp;exact ⟨by omega,fun X w N g=> .int _ _⟩
 |k+2,hp=>simp [dy] at hp
theorem Zy {w:World} {b c:Nat} {l:List Cl} {cur:Array Value} {e:TypeId} (hb:w.heap[b]? =some (.cells cur e (0,0))) (hs:cur.size=c*2) (hl:l.length≤c) (h: ∀ (j:Nat) (x:Cl),l[j]? =some x→ ∀k,k<2→w.cell? ⟨b,j*2+k,none⟩=some (eF x)[k]!):HoldsK eF 2 w b 0 l.toArray:=by
 intro t ht
 rw [size_flatK] at ht
 have ht':t<l.length*2:=by simpa using ht
 have hj:t/2<l.length:=by omega
 have hx:l[t/2]? =some l.toArray[t/2]! :=by simp [hj]
 refine ⟨?_, ?_⟩
 ·rw [get_flatK _ _ _ _ ht]
  have:=h _ _ hx (t%2) (Nat.mod_lt _ (by omega))
  rw [Nat.zero_add]
  rw [show t/2*2+t%2=t by omega] at this
  exact this
 ·simp [World.frozen?,hb]
theorem ZE {f:Nat} {ps:List PU} {l l':List Cl} (h:CO f ps l=some l'):f=151∧ps=[.func 152 [] []]∧l'=sortCl l:=by
 unfold CO at h
 split at h
 ·injection h with h
  exact ⟨rfl,rfl,h.symm⟩
 ·cases h
theorem yq (o:Obj):kH (LL o):=by
 intro f ps e l l' h
 have hi:IW f ps e l=some l':=h
 clear h
 cases e with
 |T=>cases hi
 |B=>cases hi
 |I=>cases hi
 |F=>cases hi
 |C=>
 obtain ⟨rfl,rfl,rfl⟩:=ZE hi
 refine ⟨⟨Tryz.f151,Tryz.func151,by kernel_rfl,rfl⟩,fun w vs N0 δ hg hδ=> ?_⟩
 have hs:vs.size=2:=hg.size
 obtain ⟨v0,v1,rfl⟩: ∃v0 v1,vs= #[v0,v1]:=by
  obtain ⟨l⟩:=vs
  match l,hs with
  |[v,v'],_=>exact ⟨v,v',rfl⟩
 have h0:ObOK (LL o) w (NB N0 0 (fun _=>0) δ) (gB UU 0 fun _=>0) ET.C l v0 .wr (δ 0):=hg.args 0 _ rfl
 have h1:Rep (LL o) w (NB N0 0 (fun _=>0) δ) (gB UU 0 fun _=>0) v1 (.func 152 [] []):=hg.args 1 _ rfl
 cases h1 with
 |func _ _ _ xs ys ha hb _ _=>
 have ha':xs= #[]:=by simpa using ha
 have hb':ys= #[]:=by simpa using hb
 subst ha';subst hb'
 obtain ⟨A,n,c,rfl,hl,hc,hcell,hm⟩:=h0.val
 have hl: @List.length Cl l=n:=hl
 cases hD:δ 0 with
 |none=>
  rw [hD] at hm hcell
  obtain ⟨rfl,rfl,rfl⟩:=hm.1 rfl
  have:l=([]:List Cl):=List.length_eq_zero_iff.1 hl
  subst this
  refine (afK none 0 w).mono ?_
  rintro e w' ⟨rfl,rfl⟩
  refine ⟨rfl,.refl _ _, ?_⟩
  rw [hD] at h0
  have:sortCl []=[]:=by simp [sortCl]
  rw [this]
  exact h0
 |some b=>
  rw [hD] at hm hcell
  obtain ⟨hu,cur,rfl,hblk,hsz,hmax⟩:=hm
  have hbl:b<w.heap.size:=(Array.getElem?_eq_some_iff.1 hblk).1
  have hcs:cur.size=c*2:=hsz
  have hH:HoldsK eF 2 w b 0 l.toArray:=Zy hblk hcs (hl▸hc) fun j x hx k hk=>by
   have hp: ∃p,(dy ET.C x)[k]? =some p∧p= .int .u32 (if k=0 then x.pos else x.neg):=by
    match k,hk with
    |0,_=>exact ⟨_,rfl,rfl⟩
    |1,_=>exact ⟨_,rfl,rfl⟩
   obtain ⟨p,hp,hpe⟩:=hp
   obtain ⟨a,v,ha,hv,hr,_⟩:=hcell j x hx k p hp
   injection ha with ha
   subst ha
   subst hpe
   have hv':w.cell? ⟨b,j*2+k,none⟩=some v:=by
    have:(⟨b,0,none⟩:Addr).add (j*(LL o).esize ET.C+k)=⟨b,j*2+k,none⟩:=by
     rw [Addr.add_lit'];show (⟨b,0+(j*2+k),none⟩:Addr)=_;congr 1;omega
    rw [this] at hv;exact hv
   rw [hv']
   cases hr
   match k,hk with
   |0,_=>rfl
   |1,_=>rfl
  have hlt: @List.length Cl l<4611686018427387904:=by
   have:n≤1099511627776:=hmax.2
   omega
  have hcall:=afJ b c l w hH hbl hlt
  have he:(.slice (some ⟨b,0,none⟩) (@List.length Cl l) c:Value)= .slice (some ⟨b,0,none⟩) n c:=by rw [hl]
  rw [he] at hcall
  refine hcall.mono ?_
  rintro e w' ⟨rfl,m,os,rfl⟩
  have hlen:(sortCl l).length= @List.length Cl l:=List.length_mergeSort _
  have hH':=holdsK_sortWorldK_c eF 2 w b 0 l.toArray (sortCl l).toArray m os hH hbl hlen
  refine ⟨rfl,⟨rfl,rfl,rfl,size_sortWorldK_c eF 2 w b 0 m _ os,fun k hk hne=>afI hk fun e=>hne ?_⟩, ?_⟩
  ·subst e
   exact List.mem_append_right _ (List.mem_filterMap.2 ⟨0,by simp,hD⟩)
  ·refine ⟨_,n,c,rfl,hlen.trans hl,hc,fun j x hx k p hp=> ?_, ?_⟩
   ·obtain ⟨hk,hrep⟩:=WN x hp
    have hj:j<(sortCl l).length:=(List.getElem?_eq_some_iff.1 hx).1
    have:=(hH'.cell (i:=j) (c:=k) (by simpa using hj) hk).1
    have he:(sortCl l).toArray[j]! =x:=by
     have:=List.getElem?_eq_some_iff.1 hx
     rw [getElem!_pos _ j (by simpa using hj)];exact this.2
    rw [he] at this
    refine ⟨_,_,rfl, ?_,hrep _ _ _ _,fun h=>by cases h⟩
    have e:(⟨b,0,none⟩:Addr).add (j*(LL o).esize ET.C+k)=⟨b,0+j*2+k,none⟩:=by
     rw [Addr.add_lit'];show (⟨b,0+(j*2+k),none⟩:Addr)=_;congr 1;omega
    show World.cell? _ (Addr.add _ _)=_
    rw [e];exact this
   ·exact ⟨hu,_,rfl,afH hblk,by simp [putCells];exact hcs,hmax⟩
end Go.Proofs.YtapmagaejigpnaaGreatDoor
namespace Go.Proofs.YtapmagaejigpnaaGreatDoor
open Go PI Go.ChangeShapes Go.WideShapes Go.ChangeAt Go.RowKit
set_option linter.unusedVariables false
set_option linter.unusedSimpArgs false
set_option maxRecDepth 100000
theorem own:ownKnob Tryz.prog.godebug=none:=by kernel_rfl
theorem II:Tryz.prog.globalNamed "math/bits.deBruijn32tab" =some 0:=by kernel_rfl
section
variable {H:Type} {enc:TypeId×Value→H}
structure Kept (W W':World):Prop where
 os:W'.os=W.os
 output:W'.output=W.output
 size:W.heap.size≤W'.heap.size
 block: ∀b,b<W.heap.size→W'.heap[b]? =W.heap[b]?
theorem Kept.sameAt {W W':World} (h:Kept W W') {p:MemPlace} (hp:p.block<W.heap.size):W.sameAt W' p:=by
 cases p with
 |cell b o=>simp only [World.sameAt,World.cell?];rw [h.block b hp]
 |map b=>exact h.block b hp
theorem Kept.kept {W W':World} (h:Kept W W') (may:MemPlace→Prop):W.keptBut W' may:=by
 refine ⟨h.os,h.output,fun i hi=> ?_⟩
 rw [h.block i hi]
 cases W.heap[i]? with
 |none=>rfl
 |some o=>cases o with
  |cells c t fr=>exact ⟨rfl,rfl,rfl,fun _ _=>rfl⟩
  |map es clock=>exact .inr ⟨rfl,rfl⟩
  |_=>rfl
theorem He {W W':World} {sp:Nat→Bool} {held:Bool}: ∀ {ts:List TypeId} {vs:List Value} {ds:List (DataW H)} {ps:List MemPlace},
  DataW.TrodAll enc Tryz.prog W 0 sp held ts vs ds ps→(∀p∈ps,W.sameAt W' p)→DataW.TrodAll enc Tryz.prog W' 0 sp held ts vs ds ps
 |[],[],[],_,h,_=>h
 |_::_,_::_,_::_,_,⟨p,q,⟨n,h1⟩,h2,e⟩,hs=>
  ⟨p,q,⟨n,DataW.trod_carry n _ _ _ h1 fun x hx=>hs x (by rw [e];exact List.mem_append_left _ hx)⟩,He h2 (fun x hx=>hs x (by rw [e];exact List.mem_append_right _ hx)),e⟩
theorem kids:Kids Tryz.prog (· <Tryz.prog.types.size):=kids_rows (by kernel_rfl) (by kernel_rfl)
theorem full: ∀t e,t<Tryz.prog.types.size→Tryz.prog.underlying t=some (.slice e)→0<Tryz.prog.cellsOf e:=slices_full_of Tryz.prog (by kernel_rfl)
theorem adm {f:Func} {s:ChangeSpec} (hv:s.vars=[]) {df fresh handsOn again:Bool} {W W':World} {args:Array Value} {ds gs:List (DataW H)} {before:List MemPlace} (hf:f.resultTypes= #[4])
  (hT: ∀t∈f.params.toList,t<Tryz.prog.types.size) (hs:s.fn H ds={results:=[.lit (.bool true)],args:=ds})
  (hW:DataW.Whole enc Tryz.prog f.params.toList s.vars df W args.toList ds gs before) (hk:Kept W W'):s.post enc Tryz.prog f df fresh handsOn again W args (.bool true) W':=by
 have hold: ∀p∈before,(fun b=>decide (b<W.heap.size)) p.block=true:=fun p hp=>by simpa using hW.lt p hp
 have hlt: ∀p∈before,p.block<W.heap.size:=fun p hp=>by simpa using hW.lt p hp
 have hW0:=hW
 obtain ⟨p,q,hA,hV,rfl,hz,hn⟩:=hW
 rw [hv] at hV
 obtain ⟨rfl,rfl⟩:=trodVars_none hV
 rw [List.append_nil] at hold hlt hz hn hW0
 have hs':s.fn H (ds++[])={results:=[.lit (.bool true)],args:=ds}:=by rw [List.append_nil];exact hs
 have hr:(Value.bool true).resultList f.resultTypes.size=[.bool true]:=by rw [hf];rfl
 have hres: ∀ (b:Nat) (sp:Nat→Bool) (hd:Bool),DataW.TrodAll enc Tryz.prog W' b sp hd f.resultTypes.toList ((Value.bool true).resultList f.resultTypes.size) (s.fn H (ds++[])).results []:=fun b sp hd=>by
  rw [hr,hs',hf]
  exact trodAll_cons_mk (shut_bool Tryz.underlying4 _) trodAll_mk0
 have hargs: ∀sp:Nat→Bool,(∀p'∈p,sp p'.block=true)→DataW.TrodAll enc Tryz.prog W' 0 sp true f.params.toList args.toList (s.fn H (ds++[])).args p:=fun sp hsp=>by
  rw [hs']
  exact DataW.TrodAll.respare kids full hT (He hA fun x hx=>hk.sameAt (hlt x hx)) hsp
 have hvars: ∀sp:Nat→Bool,DataW.TrodVars enc Tryz.prog W' sp s.vars (s.fn H (ds++[])).vars []:=fun sp=>by rw [hv,hs'];rfl
 refine ⟨ds,[],p,[],p,[],hW0,hres _ _ _,hargs _ hold,hvars _,World.keptBut_mono (fun p' hp=>hp.elim) (hk.kept fun _=>False),fun _=> ?_⟩
 refine ⟨fun j t r h1 h2=> ?_,_,_,([]++p)++[],⟨[]++p,[],trodAll_append (hargs _ (fun _ _=>rfl)) (hres _ _ _),hvars _,rfl, ?_, ?_⟩, ?_⟩
 ·rw [hf] at h1
  rw [hr] at h2
  match j,h1,h2 with
  |0,h1,h2=>cases h1;cases h2;exact okWide_bool_mk Tryz.underlying4 _
  |j+1,h1,h2=>simp at h2
 ·intro b off hp
  have hp':MemPlace.cell b off∈p:=by simpa using hp
  have:=hz b off hp'
  simp only [World.frozen?] at this ⊢
  rw [hk.block b (hlt _ hp')]
  exact this
 ·intro ha
  have:=hn ha
  simpa using this
 ·intro p' hp _
  simpa using hp
variable {w:World} {spare:Nat→Bool} {held:Bool} {o:Obj} {N:aJ} {g:Gh UU}
theorem Wg {v:Value} {n:Nat} (h:v.cells.toList.length=n+2): ∃vs:Array Value,v= .agg vs∧vs.toList=v.cells.toList:=by
 cases v with
 |agg vs=>exact ⟨vs,rfl,rfl⟩
 |_=>simp [Value.cells] at h
theorem Hk (hN: ∀b o,¬N b o) {v:Value} {d:DataW H} {ps:List MemPlace} (h:DataW.Trod enc Tryz.prog w 0 spare held 26 v d ps): ∃t:Tm,Rep (LL o) w N g v (.agg (dy ET.T t))∧QT t d:=by
 obtain ⟨n,hn⟩:=h
 obtain ⟨t,hr,hq⟩:=(Lk (o:=o) (g:=g) hN n).1 _ _ _ hn
 obtain ⟨_,_,_,_,hl,_,_⟩:=DataW.trod_struct Tryz.underlying26 hn
 have hl6:v.cells.toList.length=6:=hl.trans (by kernel_rfl)
 obtain ⟨vs,rfl,hvs⟩:=Wg (n:=4) hl6
 refine ⟨t,Rep.agg (X:=LL o) vs (dy ET.T t) (by rw [←Array.length_toList,hvs,hl6];rfl) fun j p hp=> ?_,hq⟩
 obtain ⟨v',hv',hr'⟩:=hr j p hp
 have:vs.getD j undef=v':=by
  have h2:vs[j]? =some v':=by rw [←Array.getElem?_toList,hvs];exact hv'
  rw [Array.getD_eq_getD_getElem?,h2];rfl
 rw [this];exact hr'
theorem agZ (hN: ∀b o,¬N b o) {W:World} {base:Nat} {v:Value} {d:DataW H} {ps:List MemPlace} (hv:Value.okWide Tryz.prog W .any base 22 v) (h:DataW.Trod enc Tryz.prog w 0 spare held 22 v d ps):
  ∃l:List Cl,Rep (LL o) w N g v (cE l .none)∧am l∧l.length+1≤Rows.uptoBulk d:=by
 obtain ⟨a,len,cap,rfl⟩:=okWide_slice Tryz.underlying22 hv
 obtain ⟨n,hn⟩:=h
 obtain ⟨c,l,hc,hr,hq⟩:=DK (o:=o) (g:=g) hN hn
 obtain rfl:c= .slice a len cap:=by simpa [Value.cells] using hc.symm
 exact ⟨l,hr,hq⟩
theorem Ws (hN: ∀b o,¬N b o) {W:World} {base:Nat} {v:Value} {d:DataW H} {ps:List MemPlace} (hv:Value.okWide Tryz.prog W .any base 24 v) (h:DataW.Trod enc Tryz.prog w 0 spare held 24 v d ps):
  ∃l:List (Br Tm),Rep (LL o) w N g v (fy l .none)∧((aI l+1≤Rows.uptoBulk d∧l.length+1≤Rows.uptoBulk d)∧(Rows.uptoBulk d<1073741824→bu l)):=by
 obtain ⟨a,len,cap,rfl⟩:=okWide_slice Tryz.underlying24 hv
 obtain ⟨n,hn⟩:=h
 obtain ⟨c,l,hc,hr,h1,h2,h3⟩:=(Lk (o:=o) (g:=g) hN n).2.2.2 _ _ _ hn
 obtain rfl:c= .slice a len cap:=by simpa [Value.cells] using hc.symm
 exact ⟨l,hr,⟨h1,h2⟩,h3⟩
theorem Hq (d:DataW H):1≤Rows.uptoBulk d:=by
 cases d with
 |lit l=>cases l<;>simp [Rows.uptoBulk]
 |_=>simp [Rows.uptoBulk]
theorem Zv {o:Obj} {W:World} (h0:W.heap[0]? =some o) {vs:Array Value} {ps:List PU} (hs:vs.size=ps.length) (hp:ps.all PV.notFresh=true)
  (h: ∀ (j:Nat) p,ps[j]? =some p→Rep (LL o) W (NB (fun _ _=>False) 0 (fun _=>0) fun _=>none) (gB UU 0 fun _=>0) (vs.getD j undef) p):Given (LL o) W vs (fun _ _=>False) (fun _=>0) (fun _=>none) ps [] where
 bnd:=⟨fun i j hi=>absurd hi (Nat.not_lt_zero i),fun i hi=>absurd hi (Nat.not_lt_zero i),fun j b h=>(by cases h),fun i j b h=>(by cases h),fun j b h=>(by cases h),fun b o h=>h.elim⟩
 size:=hs
 dom:=fun j b h=>by cases h
 glob:=fun b o' hb=>by
  simp [LL] at hb
  obtain ⟨rfl,rfl⟩:=hb
  exact ⟨h0,fun i hi=>absurd hi (Nat.not_lt_zero i),fun j h=>by cases h⟩
 args:=fun j p hj=>RepG.of (h j p hj)
 boxes:=fun k b h=>by simp at h
theorem DG: ∀b o,¬NB (fun _ _=>False) 0 (fun _=>0) (fun _=>none) b o:=by
 rintro b o (h|⟨k,hk,_⟩|⟨j,h⟩)
 ·exact h
 ·exact absurd hk (Nat.not_lt_zero k)
 ·cases h
theorem WF {o:Obj} {f:FuncId} {ps:List PU} (hok:ca (LL o) f ps [] (.ret (.bool true) [])) {W:World} {vs:Array Value} (hg:Given (LL o) W vs (fun _ _=>False) (fun _=>0) (fun _=>none) ps []):
  Calls Tryz.prog f vs W fun e W'=>e= .returned (.bool true)∧Kept W W':=by
 refine (hok.2 W vs _ _ _ hg).mono ?_
 rintro e W' he
 cases e with
 |returned rv=>
  obtain ⟨ν',δ',hb,hr⟩:=he
  have hr:Rep (LL o) W' _ _ rv (.bool true):=hr
  cases hr
  refine ⟨rfl,hb.ext.os,hb.ext.output,hb.ext.size,fun b hb'=>hb.ext.block b hb' fun hm=> ?_⟩
  simp [nu] at hm
 |panicked ch=>exact he.elim
 |outgrown=>exact he.elim
theorem aga {H:Type}:(Rows.laid_math_bits_deBruijn32tab:DataW H)=Lib.tabData .u8 (Lib.deBruijn32tab.map fun n:Nat=>(n:Int)):=rfl
theorem agb {W:World} (h:laidMetH Tryz.prog [("math/bits.deBruijn32tab",Rows.laid_math_bits_deBruijn32tab)] W): ∃o,ag o∧W.heap[0]? =some o:=by
 have h':laidMet Tryz.prog [("math/bits.deBruijn32tab",Rows.laid_math_bits_deBruijn32tab)] W:=h
 rw [aga] at h'
 have ht:Lib.TabIs Tryz.prog W "math/bits.deBruijn32tab" .u8 (Lib.deBruijn32tab.map fun n:Nat=>(n:Int)):=
  Lib.tabIs_of_head (rest:=[]) II (by kernel_rfl) Tryz.underlying205 Tryz.underlying5 (by kernel_rfl) (by kernel_rfl) h'
 have hc: ∀j,j<Lib.deBruijn32tab.length→W.cell? ⟨0,j,none⟩=some (.int .u8 (Lib.deBruijn32tab.getD j 0:Nat)):=fun j hj=>by
  rw [ht.cell II j (by simpa using hj)]
  simp [List.getD,hj]
 have h0:=hc 0 (by decide)
 cases hh:W.heap[0]? with
 |none=>simp [World.cell?,hh] at h0
 |some o=>
  cases o with
  |cells cur e fr=>
   refine ⟨_,⟨cur,e,fr,rfl,fun j hj=> ?_⟩,rfl⟩
   have:=hc j hj
   simpa [World.cell?,hh] using this
  |_=>simp [World.cell?,hh] at h0
end
end Go.Proofs.YtapmagaejigpnaaGreatDoor
