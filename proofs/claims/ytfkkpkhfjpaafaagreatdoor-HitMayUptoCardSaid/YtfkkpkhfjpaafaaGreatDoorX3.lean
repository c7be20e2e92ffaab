/- Part 3 of a proof: the sources, with their names and remarks, lie in wip/. -/
import Derived.Test.YtfkkpkhfjpaafaaGreatDoorX2
import Derived.Test.YtfkkpkhfjpaafaaGreatDoorRows
import Derived.ProofKit
import Derived.OpenShut
import Derived.ChangeArms
import Derived.Deep.Slices
import Derived.Shelf.SlSortCmp.NoneTotal
import Derived.Ground.SlsfProg
import Derived.Test.YtfkkpkhfjpaafaaGreatDoorProg
import Derived.Shelf.Spec.TrailingZeros
import Derived.RangeFuncBound
import Derived.RangeFuncLeaves
import Derived.RangeFuncOwn
import Derived.OwnWalkIn
import Derived.TacticsInMore
import Derived.LoopNIn
import Derived.LoopIn
import Derived.Maps.RangeWalk
import Derived.Maps.AppendAt
import Derived.Test.YtfkkpkhfjpaafaaGreatDoorCards
import Derived.Test.YtfkkpkhfjpaafaaGreatDoorTie
import Derived.WalkKit
import Derived.ReadAgain
import Derived.Deep.DeepHandedRow
import Derived.Lib.LaidTab
namespace Go.Proofs.YtfkkpkhfjpaafaaGreatDoor
open Go PI
set_option linter.unusedVariables false
set_option linter.unusedSimpArgs false
set_option maxRecDepth 20000
variable {S:Type} {k:Nat}
theorem aeZ (hk:Fu k) (ret:Int→Option S) {c:Cl} (hc:aX c) {l:List Cl} (hl:aq l) (hlen:l.length<2147483648):
  ∀ (r p:List Cl) (m:Nat),l=p++r→r.length<m→ ∃v:Int,decide (v≥0)= !ce r c∧qO k ret c l m (p.length:Int)=ret v:=by
 intro r
 induction r with
 |nil=>
  intro p m h hm
  obtain ⟨m,rfl,hm'⟩:=i9 hm
  exact ⟨-1,rfl,by grind [qO,yc,ad]⟩
 |cons x r ih=>
  intro p m h hm
  obtain ⟨m,rfl,hm'⟩:=i9 hm
  obtain ⟨e1,e2,e3,e4⟩:=j3 h (by omega)
  have hx:aX x:=hl x (by grind)
  obtain ⟨v,hv,hr⟩:=ih (p++[x]) m e4 hm'
  have e0:ce (x::r) c=((decide (x=c)|| !dR c x)&&ce r c):=by rfl
  grind [qO,yc,ae,ag,aiS,decide,dR,ad]
theorem ajq (hk:Fu k) {c:Cl} (hc:aX c) {l:List Cl} (hl:aq l) (hlen:l.length<2147483648) (ret:Bool→Option S):yB k c l ret=ret (!ce l c):=by
 obtain ⟨v,hv,hr⟩:=aeZ hk (fun r1:Int=>ret (decide (r1≥0))) hc hl hlen l [] k rfl (by omega)
 grind [yB,Sg,DT,TL,DV,IM,ag]
theorem ae2 (hk:Fu k) (ret:List Cl×Int→Option S) {l:List Cl} (hl:aq l) (hlen:l.length<2147483648):
  ∀ (r p:List Cl) (m:Nat) (q:List Cl),l=p++r→r.length<m→q.length≤p.length→
  nz k ret l m (p.length:Int) q=ret (if (q++r.filter (ce l)).length>64 then ([],3) else (sortCl (q++r.filter (ce l)),0)):=by
 intro r
 induction r with
 |nil=>
  grind [i9,nz,wM,aY]
 |cons x r ih=>
  intro p m q h hm hq
  obtain ⟨m,rfl,hm'⟩:=i9 hm
  obtain ⟨e1,e2,e3,e4⟩:=j3 h (by omega)
  have hx:aX x:=hl x (by grind)
  have hpl:p.length<l.length:=by grind
  simp only [nz,wM,e1,ae,e2,Option.bind_some,ag hk,ajq hk hx hl hlen,Bool.not_not]
  rw [e3]
  cases hn:ce l x with
  |true=>
   rw [ae,J5 (by grind),List.filter_cons_of_pos hn,ih (p++[x]) m (q++[x]) e4 hm' (by grind)]
   simp
  |false=>
   rw [ad,List.filter_cons_of_neg (by grind)]
   grind
theorem zT (a b:Cl):eS VV ET.C a b=decide (a=b):=by
 have e:eS VV ET.C a b=((a.pos==b.pos)&&((a.neg==b.neg)&&true)):=by
  rfl
 rw [e,lm]
theorem agK (l:List (Cl×Bool)) (x y:Cl):dW VV ET.C (fz VV ET.C l x true) y=if x=y then some true else dW VV ET.C l y:=by
 induction l with
 |nil=>
  show (bif eS VV ET.C x y then some true else .none)=_
  simp_all [zT,dW]
 |cons a r ih=>
  obtain ⟨z,b⟩:=a
  show dW VV ET.C (bif eS VV ET.C z x then (z,true)::r else (z,b)::fz VV ET.C r x true) y=_
  rw [zT]
  by_cases h:z=x
  ·subst h
   rw [decide_eq_true rfl,cond_true]
   show (bif eS VV ET.C z y then some true else dW VV ET.C r y)=if z=y then some true else (bif eS VV ET.C z y then some b else dW VV ET.C r y)
   grind [zT]
  ·rw [decide_eq_false h,cond_false]
   show (bif eS VV ET.C z y then some b else dW VV ET.C (fz VV ET.C r x true) y)=if x=y then some true else (bif eS VV ET.C z y then some b else dW VV ET.C r y)
   grind [zT]
theorem akd {l o:List Cl} (hn:o.Nodup) (h: ∀c,c∈o↔c∈l):sortCl (o.filter (ce o))=dx l∧(o.filter (ce o)).length=(dx l).length:=by
 have hp:(sortCl (o.filter (ce o))).Perm (o.filter (ce o)):=List.mergeSort_perm _ _
 have hs:(sortCl (o.filter (ce o))).Pairwise (fun a b=>lq a b=true):=
  List.pairwise_mergeSort (le:=lq) (fun a b c h1 h2=>by
   grind [lq]) (fun a b=>by
   grind [lq]) _
 have hnd:(sortCl (o.filter (ce o))).Nodup:=hp.nodup_iff.2 (hn.filter _)
 have hsorted:lg (sortCl (o.filter (ce o))):=by
  refine (hs.and hnd).imp fun {a b} h=> ?_
  have h1:=h.1
  unfold lq at h1
  simp only [Bool.or_eq_true,Bool.and_eq_true,decide_eq_true_eq,beq_iff_eq] at h1
  rcases h1 with h1|h1
  ·exact .inl h1
  ·refine .inr ⟨h1.1, ?_⟩
   grind [Cl.ext']
 have he:sortCl (o.filter (ce o))=dx l:=BL hsorted (re l) fun c=>by
  grind [mem_mins,NK]
 exact ⟨he,by rw [←he,hp.length_eq]⟩
theorem af3 (hk:Fu k) (ret:List Cl×Int→Option S) {l:List Cl} (hl:aq l) (hlen:l.length<2147483648):
  ∀ (r p:List Cl) (m:Nat) (q:List (Cl×Bool)) (o:List Cl),l=p++r→r.length<m→o.length≤p.length→o.Nodup→(∀c:Cl,(dW VV ET.C q c).getD false=decide (c∈o))→(∀c,c∈o↔c∈p)→
  pZ k ret l m q o (p.length:Int)=ret (if r.all fE then if (dx l).length>64 then ([],3) else (dx l,0) else ([],2)):=by
 intro r
 induction r with
 |nil=>
  intro p m q o h hm ho hnd hq hmem
  obtain ⟨m,rfl,hm'⟩:=i9 hm
  have hp:l=p:=by grind
  subst hp
  have hol:aq o:=fun c hc=>hl c ((hmem c).1 hc)
  have hk':4294967296≤k:=hk
  simp only [pZ,sq,akb h,ad,List.all_nil,if_true]
  have:=ae2 hk ret hol (by omega) o [] k [] rfl (by omega) (by simp)
  grind [akd]
 |cons x r ih=>
  intro p m q o h hm ho hnd hq hmem
  obtain ⟨m,rfl,hm'⟩:=i9 hm
  obtain ⟨e1,e2,e3,e4⟩:=j3 h (by omega)
  have hx:aX x:=hl x (by grind)
  have hpl:p.length<l.length:=by grind
  simp only [pZ,sq,e1,ae,e2,Option.bind_some,ag hk,Rg hk hx]
  rw [hq,e3]
  by_cases hr:fE x=true
  ·have:(x::r).all fE=r.all fE:=by grind
   rw [hr,Bool.not_true,ad,this]
   by_cases hxo:x∈o
   ·grind [ad]
   ·rw [decide_eq_false hxo,Bool.not_false,ae,J5 (by grind)]
    refine ih (p++[x]) m _ (o++[x]) e4 hm' (by grind) (List.nodup_append.2 ⟨hnd,by simp,fun a ha b hb=>by grind⟩) (fun c=> ?_) fun c=> ?_
    all_goals grind [agK]
  grind [ae]
theorem kX (hk:Fu k) {l:List Cl} (hl:aq l) (hlen:l.length<2147483648) (ret:List Cl×Int→Option S):gy k l ret=ret (bp l):=by
 simp only [gy,Hw]
 exact af3 hk ret hl hlen l [] k [] [] rfl (by omega) (by simp) List.nodup_nil (fun c=>by rfl) (fun c=>Iff.rfl)
theorem aeg (hk:Fu k) (ret:Bool→Option S) {a b:List Cl} (hlen:a.length<4294967296):
  ∀ (r s p q:List Cl) (m:Nat),a=p++r→b=q++s→p.length=q.length→r.length=s.length→r.length<m→qN k ret a b m (p.length:Int)=ret (decide (r=s)):=by
 intro r
 induction r with
 |nil=>
  grind [i9,qN,yb,ad]
 |cons x r ih=>
  intro s p q m h h' hpq hrs hm
  obtain ⟨m,rfl,hm'⟩:=i9 hm
  cases s with
  |nil=>cases hrs
  |cons y s=>
   obtain ⟨e1,e2,e3,e4⟩:=j3 h (by omega)
   have e2':af b (p.length:Int)=some y:=by grind [uB]
   simp only [qN,yb,e1,ae,e2,e2',Option.bind_some,lm,e3]
   rw [ih s (p++[x]) (q++[y]) m e4 (by grind) (by simp_all) (by grind) hm']
   by_cases hxy:x=y<;>simp_all [ad,ae]
theorem aiN (hk:Fu k) {a b:List Cl} (hlen:a.length<4294967296) (ret:Bool→Option S):zz k a b ret=ret (decide (a=b)):=by
 simp only [zz,IL]
 by_cases h:a.length=b.length
 ·have e:((a.length:Int)==(b.length:Int))=true:=by simp [h]
  rw [e,Bool.not_true,ad]
  exact aeg hk ret hlen a b [] [] k rfl rfl rfl h (by omega)
 ·have e:((a.length:Int)==(b.length:Int))=false:=by grind
  rw [e,Bool.not_false,ae,decide_eq_false]
  grind
theorem aej (hk:Fu k) (ret:Bool→Option S) {a b:List Cl} (hlen:a.length<4294967296):
  ∀ (r s p q:List Cl) (m:Nat),a=p++r→b=q++s→p.length=q.length→r.length=s.length→r.length<m→ky k ret a b m (p.length:Int)=ret (decide (r=s)):=by
 intro r
 induction r with
 |nil=>
  grind [i9,ky,oT,ad]
 |cons x r ih=>
  intro s p q m h h' hpq hrs hm
  obtain ⟨m,rfl,hm'⟩:=i9 hm
  cases s with
  |nil=>cases hrs
  |cons y s=>
   obtain ⟨e1,e2,e3,e4⟩:=j3 h (by omega)
   have e2':af b (p.length:Int)=some y:=by grind [uB]
   simp only [ky,oT,e1,ae,e2,e2',Option.bind_some,lm,e3]
   rw [ih s (p++[x]) (q++[y]) m e4 (by simp_all) (by simp_all) (by grind) hm']
   by_cases hxy:x=y<;>simp_all [ad,ae]
theorem aiV (hk:Fu k) {a b:List Cl} (hlen:a.length<4294967296) (ret:Bool→Option S):jY k a b ret=ret (decide (a=b)):=by
 simp only [jY,BV]
 by_cases h:a.length=b.length
 ·have e:((a.length:Int)==(b.length:Int))=true:=by simp [h]
  rw [e,Bool.not_true,ad]
  exact aej hk ret hlen a b [] [] k rfl rfl rfl h (by omega)
 ·have e:((a.length:Int)==(b.length:Int))=false:=by grind
  rw [e,Bool.not_false,ae,decide_eq_false]
  grind
theorem LF (l:List Cl):(bp l).1.length≤64:=by
 grind [bp]
def bF (f:List Cl):Bool:=decide (bp f=(f,0))
theorem rH (hk:Fu k) {f:List Cl} (hf:aq f) (hlen:f.length<2147483648) (ret:Bool→Option S):hY k f ret=ret (bF f):=by
 have:=LF f
 simp only [hY,SL,ag hk,kX hk hf hlen,aiN hk (show (bp f).1.length<4294967296 by omega),cH,bF,beq_iff_eq]
 by_cases h:(bp f).2=0
 all_goals simp_all [Prod.ext_iff]
end Go.Proofs.YtfkkpkhfjpaafaaGreatDoor
namespace Go.Proofs.YtfkkpkhfjpaafaaGreatDoor
open Go PI
set_option linter.unusedVariables false
set_option linter.unusedSimpArgs false
set_option maxRecDepth 20000
variable {S:Type} {k:Nat}
def RF (f:List Cl):Prop:=bp f=(f,0)∧aq f
theorem fF {f:List Cl} (h:aq f):bF f=true↔RF f:=by grind [bF,RF]
theorem RF.right {f:List Cl} (h:RF f):bF f=true:=by unfold bF;simp [h.1]
theorem As {l o:List Cl} (h:bp l=(o,0)):o=dx l∧l.all fE=true∧o.length≤64:=by
 grind [bp]
theorem RF.len {f:List Cl} (h:RF f):f.length≤64:=(As h.1).2.2
theorem RF.rc {f:List Cl} (h:RF f) {c:Cl} (hc:c∈f):RC c:=(Bp (h.2 c hc)).1 (List.all_eq_true.1 (As h.1).2.1 c hc)
theorem agN (l:List Cl):dx (dx l)=dx l:=BL (re _) (re _) fun c=>by
 grind [mem_mins,ce]
theorem qX {l:List Cl} (hl:aq l) (h:(bp l).2=0):RF (bp l).1:=by
 have h':bp l=((bp l).1,0):=Prod.ext rfl h
 obtain ⟨h1,h2,h3⟩:=As h'
 have hok:aq (bp l).1:=fun c hc=>hl c ((mem_mins.1 (h1▸hc)).1)
 refine ⟨?_,hok⟩
 grind [bp,mem_mins,agN]
theorem agf {l:List Cl} (h:(bp l).2≠0):(bp l).1=[]:=by
 grind [bp]
theorem rA:RF []:=⟨rfl,fun c hc=>by cases hc⟩
theorem gS {c:Cl} (h:RC c):RF [c]:=by
 have hok:aq [c]:=fun d hd=>by simp at hd;subst hd;exact h.ok
 refine ⟨?_,hok⟩
 have hm:dx [c]=[c]:=BL (re _) (by simp) fun d=>by
  grind [mem_mins,ce]
 unfold bp
 rw [hm,if_pos (by simp [(Bp h.ok).2 h]),if_neg (by simp)]
theorem oA:RC ⟨0,0⟩:=⟨⟨by decide,by decide⟩,by decide,by decide⟩
theorem ami {f g:List Cl} (hf:aq f) (hg:aq g):aq (f++g):=fun c hc=>by
 rcases List.mem_append.1 hc with h|h
 ·exact hf c h
 ·exact hg c h
theorem afJ (hk:Fu k) (ret:Int→Option S) {l:List (List Cl)} (hl: ∀f∈l,aq f∧f.length<2147483648) (hlen:l.length<4294967296):
  ∀ (r p:List (List Cl)) (m:Nat),l=p++r→r.length<m→qi k ret l m (p.length:Int)=ret (if r.all bF then 0 else 2):=by
 intro r
 induction r with
 |nil=>
  grind [i9,qi,w9,ad]
 |cons x r ih=>
  intro p m h hm
  obtain ⟨m,rfl,hm'⟩:=i9 hm
  obtain ⟨e1,e2,e3,e4⟩:=j3 h (by omega)
  have hx:=hl x (by grind)
  grind [qi,w9,ae,ag,rH,ad]
theorem Hc (hk:Fu k) {l:List (List Cl)} (hl: ∀f∈l,aq f∧f.length<2147483648) (hlen:l.length<4294967296) (ret:Int→Option S):pi k l ret=ret (if l.all bF then 0 else 2):=by
 simp only [pi,HT]
 exact afJ hk ret hl hlen l [] k rfl (by omega)
def alO (f g:List Cl):List Cl×Int:=bp (f++g)
def meets (f g:List Cl):List Cl:=f.flatMap fun a=>g.map (d9 a)
def alV (f g:List Cl):List Cl×Int:=bp (meets f g)
theorem ND {f g:List Cl} (hf:aq f) (hg:aq g):aq (meets f g):=fun c hc=>by
 obtain ⟨a,ha,hc⟩:=List.mem_flatMap.1 hc
 obtain ⟨b,hb,rfl⟩:=List.mem_map.1 hc
 exact Aw (hf a ha) (hg b hb)
theorem kS {f g:List Cl} (hf:aq f) (hg:aq g) (h:(alV f g).2=0):RF (alV f g).1:=qX (ND hf hg) h
theorem Lc {f g:List Cl} (hf:aq f) (hg:aq g) (h:(alO f g).2=0):RF (alO f g).1:=qX (ami hf hg) h
theorem Bz (hk:Fu k) {f g:List Cl} (hf:aq f) (hg:aq g) (h1:f.length<1073741824) (h2:g.length<1073741824) (ret:List Cl×Int→Option S):na k f g ret=ret (alO f g):=by
 simp only [na,SM,ag hk,List.nil_append]
 rw [J5 (by grind),J5 (by omega),kX hk (ami hf hg) (by grind)]
 rfl
theorem afa (hk:Fu k) (ret:List Cl×Int→Option S) (rec0:Int→List Cl→Option S) {x:Cl} (hx:aX x) {g f:List Cl} {v:Int} (hg:aq g) (hlen:g.length<65536):
  ∀ (r p:List Cl) (m:Nat) (o:List Cl),g=p++r→r.length<m→o.length+r.length<1099511627776→nA k ret rec0 x g f v m (p.length:Int) o=rec0 (IntKind.wrap .i64 (v+1)) (o++r.map (d9 x)):=by
 intro r
 induction r with
 |nil=>
  intro p m o h hm ho
  obtain ⟨m,rfl,hm'⟩:=i9 hm
  grind [nA,w7,ad]
 |cons y r ih=>
  intro p m o h hm ho
  obtain ⟨m,rfl,hm'⟩:=i9 hm
  obtain ⟨e1,e2,e3,e4⟩:=j3 h (by omega)
  have hy:aX y:=hg y (by grind)
  simp only [List.length_cons] at ho
  simp only [nA,w7,e1,ae,e2,Option.bind_some,ag hk,G_ hk hx hy,e3]
  grind [J5]
theorem ae_ (hk:Fu k) (ret:List Cl×Int→Option S) {g f:List Cl} (hf:aq f) (hg:aq g) (hlf:f.length<32768) (hlg:g.length<32768):
  ∀ (r p:List Cl) (m:Nat) (o:List Cl),f=p++r→r.length<m→aq o→o.length+r.length*g.length<1073741825→lZ k ret g f m (p.length:Int) o=ret (bp (o++meets r g)):=by
 intro r
 induction r with
 |nil=>
  grind [i9,lZ,an_,ad,ag,kX,meets]
 |cons x r ih=>
  intro p m o h hm hok ho
  obtain ⟨m,rfl,hm'⟩:=i9 hm
  obtain ⟨e1,e2,e3,e4⟩:=j3 h (by omega)
  have hx:aX x:=hf x (by grind)
  have hmul:(x::r).length*g.length=r.length*g.length+g.length:=by grind
  rw [hmul] at ho
  have hk':4294967296≤k:=hk
  simp only [lZ,an_,e1,ae,e2,Option.bind_some]
  have:=afa hk ret (lZ k ret g f m) (f:=f) (v:=(p.length:Int)) hx hg (by omega) g [] k o rfl (by omega) (by omega)
  simp only [List.length_nil] at this
  rw [show (0:Int)=((0:Nat):Int) from rfl,this,e3,ih (p++[x]) m _ e4 hm' (ami hok fun c hc=>by
   obtain ⟨b,hb,rfl⟩:=List.mem_map.1 hc
   exact Aw hx (hg b hb)) (by grind)]
  simp [meets]
theorem vY (hk:Fu k) {f g:List Cl} (hf:aq f) (hg:aq g) (h1:f.length<32768) (h2:g.length<32768) (ret:List Cl×Int→Option S):jW k f g ret=ret (alV f g):=by
 simp only [jW,HR]
 have hb:f.length*g.length<1073741824:=Nat.lt_of_le_of_lt (Nat.mul_le_mul (Nat.le_of_lt_succ h1) (Nat.le_of_lt_succ h2)) (by decide)
 have:=ae_ hk ret hf hg h1 h2 f [] k [] rfl (by omega) (fun c hc=>by cases hc) (by grind)
 grind [alV]
theorem RF.lt {f:List Cl} (h:RF f):f.length<2147483648:=by have:=h.len;omega
end Go.Proofs.YtfkkpkhfjpaafaaGreatDoor
namespace Go.Proofs.YtfkkpkhfjpaafaaGreatDoor
open Go PI
set_option linter.unusedVariables false
set_option linter.unusedSimpArgs false
set_option maxRecDepth 20000
variable {S:Type} {k:Nat}
theorem u0:U32 0:=⟨by decide,by decide⟩
def nl (i:Int):Cl:=⟨0,e_ 0 i⟩
def pl (i:Int):Cl:=⟨e_ 0 i,0⟩
theorem FR (i:Int):RC (nl i):=⟨⟨by show (0:Int)≤0;decide,by show (0:Int)<16777216;decide⟩,ao2⟩
theorem F1 (i:Int):RC (pl i):=⟨ao2,⟨by show (0:Int)≤0;decide,by show (0:Int)<16777216;decide⟩⟩
def jI (c:Cl):List Cl:=(amp c.pos).map nl++(amp c.neg).map pl
def oj (c:Cl):List Cl×Int:=bp (jI c)
theorem Fi (s:Int):(amp s).length≤24:=by grind [amp,amb,gu]
theorem NV {c d:Cl} (h:d∈jI c):RC d:=by
 rcases List.mem_append.1 h with h|h<;>grind [FR,F1]
theorem ahw (c:Cl):(jI c).length≤48:=by
 grind [Fi,jI]
theorem LH {l:List Cl} (h: ∀c∈l,RC c) (hl:l.length≤64):(bp l).2=0:=by
 have:=agM l
 unfold bp
 rw [if_pos (List.all_eq_true.2 fun c hc=>(Bp (h c hc).ok).2 (h c hc)),if_neg (by omega)]
theorem NW (c:Cl):(oj c).2=0:=LH (fun d hd=>NV hd) (by have:=ahw c;omega)
theorem AC (c:Cl):RF (oj c).1:=qX (fun d hd=>(NV hd).ok) (NW c)
theorem afe (hk:Fu k) (ret:List Cl×Int→Option S) {l:List Int} (hlen:l.length≤64):
  ∀ (r p:List Int) (m:Nat) (o:List Cl),l=p++r→r.length<m→aq o→o.length+r.length<1073741824→nB k ret l m (p.length:Int) o=ret (bp (o++r.map pl)):=by
 intro r
 induction r with
 |nil=>
  grind [i9,nB,w8,ad,ag,kX]
 |cons x r ih=>
  intro p m o h hm hok ho
  obtain ⟨m,rfl,hm'⟩:=i9 hm
  obtain ⟨e1,e2,e3,e4⟩:=j3 h (by omega)
  simp only [List.length_cons] at ho
  simp only [nB,w8,e1,ae,e2,Option.bind_some,ag hk,vV hk u0,e3]
  rw [J5 (by grind),ih (p++[x]) m _ e4 hm' (ami hok fun c hc=>by simp at hc;subst hc;exact (F1 x).ok) (by grind)]
  simp [pl]
theorem afd (hk:Fu k) (ret:List Cl×Int→Option S) {c:Cl} (hc:aX c) {l:List Int} (hlen:l.length≤64):
  ∀ (r p:List Int) (m:Nat) (o:List Cl),l=p++r→r.length<m→aq o→o.length+r.length<1000000→qh k ret c l m (p.length:Int) o=ret (bp (o++r.map nl++(amp c.neg).map pl)):=by
 intro r
 induction r with
 |nil=>
  intro p m o h hm hok ho
  obtain ⟨m,rfl,hm'⟩:=i9 hm
  simp only [List.length_nil] at ho
  have hl:=Fi c.neg
  have hk':4294967296≤k:=hk
  simp only [qh,aoa,akb h,ad,vz,Ny hc.2,List.map_nil,List.append_nil]
  grind [afe]
 |cons x r ih=>
  intro p m o h hm hok ho
  obtain ⟨m,rfl,hm'⟩:=i9 hm
  obtain ⟨e1,e2,e3,e4⟩:=j3 h (by omega)
  simp only [List.length_cons] at ho
  simp only [qh,aoa,e1,ae,e2,Option.bind_some,ag hk,vV hk u0,e3]
  rw [J5 (by grind),ih (p++[x]) m _ e4 hm' (ami hok fun c hc=>by simp at hc;subst hc;exact (FR x).ok) (by grind)]
  simp [nl]
theorem ajs (hk:Fu k) {c:Cl} (hc:aX c) (ret:List Cl×Int→Option S):yV k c ret=ret (oj c):=by
 have hl:=Fi c.pos
 simp only [yV,HS,vz,Ny hc.1]
 have:=afd hk ret hc (l:=amp c.pos) (by omega) (amp c.pos) [] k [] rfl (by omega) (fun c hc=>by cases hc) (by grind)
 grind [oj,jI]
def adU (step:List Cl→Cl→List Cl×Int):List Cl→List Cl→List Cl×Int
 |h,[]=>(h,0)
 |h,c::r=>if (step h c).2=0 then adU step (step h c).1 r else ([],(step h c).2)
def mn (h:List Cl) (c:Cl):List Cl×Int:=alV h (oj c).1
def alU (f:List Cl):List Cl×Int:=adU mn [⟨0,0⟩] f
theorem KG {step:List Cl→Cl→List Cl×Int} (hs: ∀h c,RF h→(step h c).2=0→RF (step h c).1): ∀ {r h:List Cl},RF h→(adU step h r).2=0→RF (adU step h r).1:=by
 intro r
 induction r<;>grind [adU]
theorem FS (h:List Cl) (c:Cl) (hh:RF h) (h0:(mn h c).2=0):RF (mn h c).1:=kS hh.2 (AC c).2 h0
theorem ju {f:List Cl} (h:(alU f).2=0):RF (alU f).1:=KG FS (gS oA) h
theorem bG (n:Int):(n==0)=decide (n=0):=by rfl
theorem ajr (hk:Fu k) {h:List Cl} {c:Cl} (hh:RF h) (hc:aX c) (ret:List Cl×Int→Option S):yU k h c ret=ret (mn h c):=by
 have:=hh.len;have:=(AC c).len
 simp only [yU,SO,ag hk,ajs hk hc,NW,vY hk hh.2 (AC c).2 (show h.length<32768 by omega) (show (oj c).1.length<32768 by omega)]
 rfl
theorem aeS (hk:Fu k) (ret:List Cl×Int→Option S) {l:List Cl} (hl:aq l) (hlen:l.length<2147483648):
  ∀ (r p:List Cl) (m:Nat) (h:List Cl),l=p++r→r.length<m→RF h→qe k ret l m h (p.length:Int)=ret (adU mn h r):=by
 intro r
 induction r with
 |nil=>
  intro p m h e hm hh
  obtain ⟨m,rfl,hm'⟩:=i9 hm
  simp only [qe,w5,akb e,ad];rfl
 |cons x r ih=>
  intro p m h e hm hh
  obtain ⟨m,rfl,hm'⟩:=i9 hm
  obtain ⟨e1,e2,e3,e4⟩:=j3 e (by omega)
  have hx:aX x:=hl x (by grind)
  simp only [qe,w5,e1,ae,e2,Option.bind_some,ag hk,ajr hk hh hx,bG,e3]
  grind [ad,FS,adU,ae]
theorem Rq (hk:Fu k) {f:List Cl} (hf:aq f) (hlen:f.length<2147483648) (ret:List Cl×Int→Option S):ph k f ret=ret (alU f):=by
 simp only [ph,SN,ag hk,pg,HM,DP,HP]
 exact aeS hk ret hf hlen f [] k _ rfl (by omega) (gS oA)
theorem aja (hk:Fu k) {f:List Cl} (hf:aq f) (hlen:f.length<2147483648) (ret:List Cl×Int→Option S):yQ k f ret=ret (if bF f then alU f else ([],2)):=by
 simp only [yQ,SI,ag hk,Hc hk (l:=[f]) (by grind) (by simp),Rq hk hf hlen]
 have:[f].all bF=bF f:=by simp
 rw [this]
 by_cases h:bF f=true
 ·rw [if_pos h,if_pos h];rfl
 ·rw [if_neg h,if_neg h];rfl
end Go.Proofs.YtfkkpkhfjpaafaaGreatDoor
namespace Go.Proofs.YtfkkpkhfjpaafaaGreatDoor
open Go PI
set_option linter.unusedVariables false
set_option linter.unusedSimpArgs false
set_option maxRecDepth 20000
variable {S:Type} {k:Nat}
def gap (i:Int) (c:Cl):Cl:=⟨alW c.pos i,alW c.neg i⟩
theorem kg (i:Int) (c:Cl):RC (gap i c):=⟨Jd,Jd⟩
def d_ (i:Int) (r:List Cl) (c:Cl):List Cl×Int:=if bP c.pos i then alV [gap i c] r else ([gap i c],0)
def amk (i:Int) (r:List Cl) (c:Cl) (g:List Cl):List Cl×Int:=if bP c.neg i then if (alU r).2=0 then alV g (alU r).1 else ([],(alU r).2) else (g,0)
def dY (i:Int) (r h:List Cl) (c:Cl):List Cl×Int:=
 if (d_ i r c).2=0 then if (amk i r c (d_ i r c).1).2=0 then alO h (amk i r c (d_ i r c).1).1 else ([],(amk i r c (d_ i r c).1).2) else ([],(d_ i r c).2)
def lL (i:Int):Bool:=decide (0≤i∧i<24)
def iH (f:List Cl) (i:Int) (r:List Cl):List Cl×Int:=if bF f&&bF r&&lL i then adU (dY i r) [] f else ([],2)
theorem ahI {i:Int} {r:List Cl} {c:Cl} (hr:RF r) (h:(d_ i r c).2=0):RF (d_ i r c).1:=by
 unfold d_ at h ⊢
 split
 ·next hh=>rw [if_pos hh] at h;exact kS (gS (kg i c)).2 hr.2 h
 simp_all [gS,kg]
theorem ahK {i:Int} {r g:List Cl} {c:Cl} (hg:RF g) (h:(amk i r c g).2=0):RF (amk i r c g).1:=by
 unfold amk at h ⊢
 split
 ·next hh=>
  rw [if_pos hh] at h
  split
  ·next hn=>rw [if_pos hn] at h;exact kS hg.2 (ju hn).2 h
  grind
 omega
theorem N5 {i:Int} {r:List Cl} (hr:RF r) (h:List Cl) (c:Cl) (hh:RF h) (h0:(dY i r h c).2=0):RF (dY i r h c).1:=by
 unfold dY at h0 ⊢
 split
 ·next ha=>
  rw [if_pos ha] at h0
  have hA:=ahI hr ha
  split
  ·next hb=>rw [if_pos hb] at h0;exact Lc hh.2 (ahK hA hb).2 h0
  grind
 grind
theorem aiU (hk:Fu k) {i:Int} {r h:List Cl} {c:Cl} (hr:RF r) (hh:RF h) (hc:aX c) (ret:List Cl×Int→Option S):yS k h c i r ret=ret (dY i r h c):=by
 have l1:=hr.len;have l2:=hh.len
 have hg:=gS (kg i c)
 simp only [yS,SK,ag hk,vW hk hc.1,vW hk hc.2,rF hk hc.1,rF hk hc.2,vY hk hg.2 hr.2 (show [gap i c].length<32768 by simp) (show r.length<32768 by omega),Rq hk hr.2 hr.lt,bG,cH,decide_eq_true_eq,Bool.not_eq_true',decide_eq_false_iff_not]
 have e: ∀ (f:List Cl×Int→Option S),jW k [Cl.mk (alW c.pos i) (alW c.neg i)] r f=f (alV [gap i c] r):=fun f=>vY hk hg.2 hr.2 (by simp) (by omega) f
 simp only [e]
 unfold dY d_ amk
 by_cases hp:bP c.pos i=true
 ·simp only [hp,if_true]
  by_cases h1:(alV [gap i c] r).2=0
  ·have hA:RF (alV [gap i c] r).1:=kS hg.2 hr.2 h1
   have l3:=hA.len
   simp only [h1,not_true,if_false,if_true]
   by_cases hn:bP c.neg i=true
   ·simp only [hn,if_true]
    by_cases h2:(alU r).2=0
    ·have hN:=ju h2
     have l4:=hN.len
     simp only [h2,not_true,if_false,if_true]
     rw [vY hk hA.2 hN.2 (by omega) (by omega)]
     by_cases h3:(alV (alV [gap i c] r).1 (alU r).1).2=0
     ·have hB:=kS hA.2 hN.2 h3
      have l5:=hB.len
      simp only [h3,not_true,if_false,if_true]
      rw [Bz hk hh.2 hB.2 (by omega) (by omega)]
     grind
    grind
   ·simp only [hn,Bool.false_eq_true,if_false,if_true]
    rw [Bz hk hh.2 hA.2 (by omega) (by omega)]
  grind
 ·simp only [hp,Bool.false_eq_true,if_false,if_true]
  by_cases hn:bP c.neg i=true
  ·simp only [hn,if_true]
   by_cases h2:(alU r).2=0
   ·have hN:=ju h2
    have l4:=hN.len
    simp only [h2,not_true,if_false,if_true]
    have e2: ∀ (f:List Cl×Int→Option S),jW k [Cl.mk (alW c.pos i) (alW c.neg i)] (alU r).1 f=f (alV [gap i c] (alU r).1):=fun f=>vY hk hg.2 hN.2 (by simp) (by omega) f
    rw [e2]
    by_cases h3:(alV [gap i c] (alU r).1).2=0
    ·have hB:=kS hg.2 hN.2 h3
     have l5:=hB.len
     simp only [h3,not_true,if_false,if_true]
     rw [Bz hk hh.2 hB.2 (by omega) (by omega)]
    grind
   grind
  ·simp only [hn,Bool.false_eq_true,if_false,if_true]
   have:=Bz hk hh.2 hg.2 (by omega) (by simp) ret
   exact this
theorem aeT (hk:Fu k) (ret:List Cl×Int→Option S) {i:Int} {q:List Cl} (hq:RF q) {l:List Cl} (hl:aq l) (hlen:l.length<2147483648):
  ∀ (r p:List Cl) (m:Nat) (h:List Cl),l=p++r→r.length<m→RF h→qc k ret i q l m h (p.length:Int)=ret (adU (dY i q) h r):=by
 intro r
 induction r with
 |nil=>
  intro p m h e hm hh
  obtain ⟨m,rfl,hm'⟩:=i9 hm
  simp only [qc,wZ,akb e,ad];rfl
 |cons x r ih=>
  intro p m h e hm hh
  obtain ⟨m,rfl,hm'⟩:=i9 hm
  obtain ⟨e1,e2,e3,e4⟩:=j3 e (by omega)
  have hx:aX x:=hl x (by grind)
  simp only [qc,wZ,e1,ae,e2,Option.bind_some,ag hk,aiU hk hq hh hx,bG,e3]
  grind [ad,N5,adU,ae]
theorem aiL (hk:Fu k) (i:Int) (ret:List Cl×Int→Option S):yP k i ret=ret (if lL i then ([⟨e_ 0 i,0⟩],0) else ([],2)):=by
 simp only [yP,SF,ag hk,vV hk u0]
 grind [lL,B7,Dz,ad,Dy,ae]
theorem ajb (hk:Fu k) {f r:List Cl} {i:Int} (hf:aq f) (hr:aq r) (h1:f.length<2147483648) (h2:r.length<2147483648) (ret:List Cl×Int→Option S):yR k f i r ret=ret (iH f i r):=by
 simp only [yR,SJ,ag hk,Hc hk (l:=[f,r]) (by grind) (by simp),aiL hk]
 have e:[f,r].all bF=(bF f&&bF r):=by simp
 unfold iH
 by_cases ha:(bF f&&bF r)=true
 ·rw [e,if_pos ha,ha,Bool.true_and]
  rw [show ((0:Int)==0)=true from rfl,Bool.not_true,ad]
  cases hd:lL i with
  |true=>
   rw [if_pos rfl,if_pos rfl]
   rw [show ((0:Int)==0)=true from rfl,Bool.not_true,ad]
   simp only [tK,HN,DO,HO]
   have hr':=(fF hr).1 (by grind)
   exact aeT hk ret hr' hf h1 f [] k [] rfl (by omega) rA
  |false=>
   rfl
 simp_all [if_neg,ae]
theorem agr {m n b:Nat}:(amc m n b).1<16777216:=by
 have h1:m&&&M24<16777216:=Nat.lt_of_le_of_lt Nat.and_le_right (by decide)
 have h2:gO m n≤m&&&M24:=Nat.and_le_left
 unfold amc
 split
 ·omega
 ·split
  ·simp
  ·split
   ·simp
   ·exact Nat.or_lt_two_pow (n:=24) (by omega) (by omega)
theorem LK (s i b:Int):0≤(alS s i b).1∧(alS s i b).1<16777216:=by
 grind [alS,agr]
theorem LJ (c:Cl) (i b:Int):RC (dw c i b).1:=by
 unfold dw
 split
 ·split
  ·split
   ·exact ⟨LK _ _ _,LK _ _ _⟩
   ·exact oA
  ·exact oA
 ·exact oA
def dK (i b:Int) (h:List Cl) (c:Cl):List Cl×Int:=(h++[(dw c i b).1],(dw c i b).2)
def agS (f:List Cl) (i b:Int):List Cl×Int:=if bF f then if (adU (dK i b) [] f).2=0 then bp (adU (dK i b) [] f).1 else ([],(adU (dK i b) [] f).2) else ([],2)
theorem KH {i b:Int}: ∀ {r h:List Cl},aq h→aq (adU (dK i b) h r).1∧(adU (dK i b) h r).1.length≤h.length+r.length:=by
 intro r
 induction r with
 |nil=>intro h hh;exact ⟨hh,by show h.length≤_;omega⟩
 |cons c r ih=>
  intro h hh
  unfold adU
  split
  ·have:=ih (h:=(dK i b h c).1) (ami hh fun d hd=>by simp at hd;subst hd;exact (LJ c i b).ok)
   grind [dK]
  ·exact ⟨fun d hd=>(by cases hd),by simp⟩
theorem aeR (hk:Fu k) (ret:List Cl×Int→Option S) {i b:Int} (hi:aG i) (hb:aG b) {l:List Cl} (hl:aq l) (hlen:l.length<2147483648):
  ∀ (r p:List Cl) (m:Nat) (h:List Cl),l=p++r→r.length<m→h.length+r.length<4294967296→qf k ret i b l m h (p.length:Int)=ret (adU (dK i b) h r):=by
 intro r
 induction r with
 |nil=>
  intro p m h e hm hh
  obtain ⟨m,rfl,hm'⟩:=i9 hm
  simp only [qf,w6,akb e,ad];rfl
 |cons x r ih=>
  intro p m h e hm hh
  obtain ⟨m,rfl,hm'⟩:=i9 hm
  obtain ⟨e1,e2,e3,e4⟩:=j3 e (by omega)
  have hx:aX x:=hl x (by grind)
  simp only [List.length_cons] at hh
  simp only [qf,w6,e1,ae,e2,Option.bind_some,ag hk,DN,SH,ai4 hk hx hi hb,bG,e3]
  grind [J5,ad,adU,dK,ae]
theorem vX (hk:Fu k) {f:List Cl} {i b:Int} (hf:aq f) (hlen:f.length<1073741824) (hi:aG i) (hb:aG b) (ret:List Cl×Int→Option S):jV k f i b ret=ret (agS f i b):=by
 have hlo:=KH (i:=i) (b:=b) (r:=f) (h:=[]) (fun d hd=>by cases hd)
 simp only [List.length_nil] at hlo
 have hfold: ∀ (g:List Cl×Int→Option S),yT k f [] i b g=g (adU (dK i b) [] f):=fun g=>by
  simp only [yT,HQ]
  exact aeR hk g hi hb hf (by omega) f [] k [] rfl (by omega) (by grind)
 simp only [jV,SG,ag hk,Hc hk (l:=[f]) (by grind) (by simp),tK,HN,hfold,kX hk hlo.1 (show _<2147483648 by omega)]
 grind [agS,ad,decide_eq_false,ae]
theorem kQ {f:List Cl} {i b:Int} (h:(agS f i b).2=0):RF (agS f i b).1:=by
 unfold agS at h ⊢
 split
 ·next hr=>
  rw [if_pos hr] at h
  split
  ·next h0=>
   rw [if_pos h0] at h
   exact qX (KH fun d hd=>by cases hd).1 h
  grind
 grind
theorem apW {f:List Cl} {i b:Int} (h:(agS f i b).2≠0):(agS f i b).1=[]:=by
 grind [agS,agf]
end Go.Proofs.YtfkkpkhfjpaafaaGreatDoor
namespace Go.Proofs.YtfkkpkhfjpaafaaGreatDoor
open Go PI
set_option linter.unusedVariables false
set_option linter.unusedSimpArgs false
set_option maxRecDepth 20000
variable {S:Type} {k:Nat}
def AD (s:Nat) (f:List Cl):Nat:=f.foldl (fun s c=>s|||(c.pos.toNat|||c.neg.toNat)) s
def fS (f:List Cl):Nat:=AD 0 f&&&M24
def ie (f:List Cl):Int:=((fS f:Nat):Int)
def jJ (f:List Cl) (i:Nat):Bool:=f.any fun c=>c.pos.toNat.testBit i||c.neg.toNat.testBit i
theorem ahx (i:Nat): ∀ {f:List Cl} {s:Nat},(AD s f).testBit i=(s.testBit i||jJ f i):=by
 intro f
 induction f<;>simp_all [AD,jJ,Bool.or_assoc]
theorem D7 (f:List Cl) (i:Nat):(fS f).testBit i=(jJ f i&&decide (i<24)):=by
 grind [fS,g8,ahx]
theorem D6 (f:List Cl):fS f<16777216:=Nat.lt_of_le_of_lt Nat.and_le_right (by decide)
theorem aeB (hk:Fu k) (ret:Int→Option S) {l:List Cl} (hl:aq l) (hlen:l.length<4294967296):
  ∀ (r p:List Cl) (m:Nat) (s:Nat),l=p++r→r.length<m→s<4294967296→qb k ret l m (s:Int) (p.length:Int)=ret (((AD s r&&&M24:Nat):Int)):=by
 intro r
 induction r with
 |nil=>
  intro p m s e hm hs
  obtain ⟨m,rfl,hm'⟩:=i9 hm
  simp only [qb,wY,akb e,ad,ag hk,vW hk (U32.of hs)]
  rfl
 |cons x r ih=>
  intro p m s e hm hs
  obtain ⟨m,rfl,hm'⟩:=i9 hm
  obtain ⟨e1,e2,e3,e4⟩:=j3 e (by omega)
  have hx:aX x:=hl x (by grind)
  have ho:U32 (ep x.pos x.neg):=FX hx.1 hx.2
  have hq:s|||(x.pos.toNat|||x.neg.toNat)<4294967296:=by
   have h1:=hx.1.1;have h2:=hx.1.2;have h3:=hx.2.1;have h4:=hx.2.2
   have h32:(2:Nat)^32=4294967296:=by decide
   exact Nat.or_lt_two_pow (n:=32) hs (Nat.or_lt_two_pow (n:=32) (by omega) (by omega))
  have es:ep (s:Int) (ep x.pos x.neg)=((s|||(x.pos.toNat|||x.neg.toNat):Nat):Int):=by rfl
  simp only [qb,wY,e1,ae,e2,Option.bind_some,rh hx.1 hx.2,rh (U32.of hs) ho,e3,es]
  exact ih (p++[x]) m _ e4 hm' hq
theorem Ha (hk:Fu k) {f:List Cl} (hf:aq f) (hlen:f.length<4294967296) (ret:Int→Option S):jc k f ret=ret (ie f):=by
 simp only [jc,HL]
 exact aeB hk ret hf hlen f [] k 0 rfl (by omega) (by decide)
def dg (f:List Cl) (d:Int):Bool:=decide (∀i∈bW (fS f),(i:Int)<d)
theorem RZ (hk:Fu k) {f:List Cl} {d:Int} (hf:aq f) (hlen:f.length<4294967296) (hd:0≤d) (hd':d<9223372036854775808) (ret:Bool→Option S):lK k f d ret=ret (dg f d):=by
 simp only [lK,TY,aY,ag hk,Ha hk hf hlen]
 by_cases h:d≥24
 ·grind [dg,mem_bitsN]
 ·rw [if_neg h]
  obtain ⟨n,rfl⟩: ∃n:Nat,d=n:=⟨d.toNat,by omega⟩
  rw [iR n (by omega),yq (by omega),Int.toNat_natCast,Nat.min_eq_left (by omega)]
  congr 1
  rw [ie,Es,dg,Bool.eq_iff_iff]
  simp only [beq_iff_eq,decide_eq_true_eq]
  have hdiv:(fS f/2^n=0)↔fS f<2^n:=Nat.div_eq_zero_iff_lt (Nat.two_pow_pos n)
  constructor
  ·grind [mem_bitsN,Nat.lt_of_lt_of_le,Nat.pow_le_pow_right,Nat.testBit_lt_two_pow]
  ·intro h0
   have:fS f<2^n:=by
    apply Nat.lt_pow_two_of_testBit
    grind [mem_bitsN,oZ,D6]
   omega
end Go.Proofs.YtfkkpkhfjpaafaaGreatDoor
namespace Go.Proofs.YtfkkpkhfjpaafaaGreatDoor
open Go PI
set_option linter.unusedVariables false
set_option linter.unusedSimpArgs false
set_option maxRecDepth 20000
variable {S:Type} {k:Nat}
def kz (c:Cl):Bool:= !bS c
def dv (l:List Cl):List Cl:=l.filter kz
def cV (f:List Cl):Bool:=bF f&&f.all fun c=> !bS c
def RFa (f:List Cl):Prop:=RF f∧ ∀c∈f,bS c=false
theorem oB {f:List Cl} (h:aq f):cV f=true↔RFa f:=by
 grind [cV,RFa,fF]
theorem RFa.right {f:List Cl} (h:RFa f):cV f=true:=(oB h.1.2).2 h
theorem Ds {l:List Cl} {c:Cl} (h:c∈dv l):c∈l∧bS c=false:=by
 have:=List.mem_filter.1 h
 grind [kz]
theorem Jz {l:List Cl} (h:aq l):aq (dv l):=fun c hc=>h c (Ds hc).1
theorem LG {l:List Cl} (hl:aq l) (hc: ∀c∈l,bS c=false) (h:(bp l).2=0):RFa (bp l).1:=by
 refine ⟨qX hl h,fun c hcm=> ?_⟩
 grind [bp,mem_mins]
theorem GW:RFa []:=⟨rA,fun c hc=>by cases hc⟩
theorem Bn {c:Cl} (h:RC c) (h':bS c=false):RFa [c]:=⟨gS h,fun d hd=>by grind⟩
theorem Jy (l:List Cl):(dv l).length≤l.length:=List.length_filter_le _ _
theorem aeq (hk:Fu k) (ret:Int→Option S) {l:List Cl} (hl:aq l) (hlen:l.length<2147483648):
  ∀ (r p:List Cl) (m:Nat),l=p++r→r.length<m→ ∃v:Int,decide (v≥0)=r.any bS∧qP k ret l m (p.length:Int)=ret v:=by
 intro r
 induction r with
 |nil=>
  intro p m h hm
  obtain ⟨m,rfl,hm'⟩:=i9 hm
  exact ⟨-1,rfl,by grind [qP,yd,ad]⟩
 |cons x r ih=>
  intro p m h hm
  obtain ⟨m,rfl,hm'⟩:=i9 hm
  obtain ⟨e1,e2,e3,e4⟩:=j3 h (by omega)
  have hx:aX x:=hl x (by grind)
  obtain ⟨v,hv,hr⟩:=ih (p++[x]) m e4 hm'
  grind [qP,yd,ae,ag,Rf,ad]
theorem Hb (hk:Fu k) {f:List Cl} (hf:aq f) (hlen:f.length<2147483648) (ret:Bool→Option S):pd k f ret=ret (cV f):=by
 obtain ⟨v,hv,hr⟩:=aeq hk (fun r1:Int=>(fun r2:Bool=>ret (!r2)) (decide (r1≥0))) hf hlen f [] k rfl (by omega)
 simp only [pd,SA,ag hk,rH hk hf hlen,DU,TM,DW,IN]
 grind [cV,bF,ae,ad]
def gN (l:List Cl):List Cl×Int:=bp (dv l)
def ofS (f:List Cl):List Cl×Int:=if bF f then gN f else ([],2)
def ofZ (f:List Cl):List Cl×Int:=if bF f then if (alU f).2=0 then gN (alU f).1 else ([],(alU f).2) else ([],2)
theorem Fc {l:List Cl} (hl:aq l) (h:(gN l).2=0):RFa (gN l).1:=LG (Jz hl) (fun c hc=>(Ds hc).2) h
theorem FT {f:List Cl} (h:(ofS f).2=0) (hf:aq f):RFa (ofS f).1:=by
 grind [ofS,Fc]
theorem FU {f:List Cl} (h:(ofZ f).2=0) (hf:aq f):RFa (ofZ f).1:=by
 unfold ofZ at h ⊢
 split
 ·next hr=>
  rw [if_pos hr] at h
  split
  ·next h0=>rw [if_pos h0] at h;exact Fc (ju h0).2 h
  grind
 grind
theorem Rn (hk:Fu k) {c:Cl} (hc:aX c) (ret:Cl×Bool→Option S):tJ k c ret=ret (c,kz c):=by
 simp only [tJ,SB,ag hk,Rf hk hc];rfl
theorem ae0 (hk:Fu k) (ret:List Cl→Option S) {l:List Cl} (hl:aq l) (hlen:l.length<2147483648):
  ∀ (r p:List Cl) (m:Nat) (o:List Cl),l=p++r→r.length<m→o.length+r.length<4294967296→p9 k ret l m (p.length:Int) o=ret (o++dv r):=by
 intro r
 induction r with
 |nil=>
  grind [i9,p9,wW,ad,dv]
 |cons x r ih=>
  intro p m o h hm ho
  obtain ⟨m,rfl,hm'⟩:=i9 hm
  obtain ⟨e1,e2,e3,e4⟩:=j3 h (by omega)
  have hx:aX x:=hl x (by grind)
  simp only [List.length_cons] at ho
  simp only [p9,wW,e1,ae,e2,Option.bind_some,ag hk,Rn hk hx,e3]
  grind [ae,J5,dv,ad]
theorem aji (hk:Fu k) {l:List Cl} (hl:aq l) (hlen:l.length<2147483648) (ret:List Cl→Option S):yN k l ret=ret (dv l):=by
 simp only [yN,HJ]
 have:=ae0 hk ret hl hlen l [] k [] rfl (by omega) (by grind)
 grind
theorem Rp (hk:Fu k) {f:List Cl} (hf:aq f) (hlen:f.length<2147483648) (ret:List Cl×Int→Option S):tI k f ret=ret (ofS f):=by
 have:=Jy f
 simp only [tI,Sy,ag hk,rH hk hf hlen,aji hk hf hlen,kX hk (Jz hf) (show (dv f).length<2147483648 by omega)]
 unfold ofS
 cases bF f with
 |true=>rfl
 |false=>rfl
theorem ajd (hk:Fu k) {f:List Cl} (hf:aq f) (hlen:f.length<2147483648) (ret:List Cl×Int→Option S):yI k f ret=ret (ofZ f):=by
 simp only [yI,Sz,ag hk,aja hk hf hlen,bG]
 unfold ofZ
 cases bF f with
 |true=>
  rw [if_pos rfl,if_pos rfl]
  by_cases h0:(alU f).2=0
  ·have hr:=ju h0
   rw [decide_eq_true h0,Bool.not_true,ad,if_pos h0,Rp hk hr.2 hr.lt]
   unfold ofS
   rw [if_pos hr.right]
  grind [ae]
 |false=>
  rfl
def amd (f g:List Cl):List Cl×Int:=gN (meets f g)
theorem ajf (hk:Fu k) {f g:List Cl} (hf:aq f) (hg:aq g) (h1:f.length<1073741824) (h2:g.length<1073741824) (ret:List Cl×Int→Option S):yL k f g ret=ret (alO f g):=by
 simp only [yL,SD,ag hk,List.nil_append]
 rw [J5 (by grind),J5 (by omega),kX hk (ami hf hg) (by grind)]
 rfl
theorem Af {f g:List Cl} (hf:RFa f) (hg:RFa g) (h:(alO f g).2=0):RFa (alO f g).1:=
 LG (ami hf.1.2 hg.1.2) (fun c hc=>by
  rcases List.mem_append.1 hc with h|h
  ·exact hf.2 c h
  ·exact hg.2 c h) h
theorem ajc (hk:Fu k) {b c:Cl} (hb:aX b) (hc:aX c) (ret:Cl×Bool→Option S):yO k b c ret=ret (d9 c b,kz (d9 c b)):=by
 simp_all [yO,SE,ag,G_,Rn,Aw]
theorem ae1 (hk:Fu k) (ret:List Cl→Option S) {c:Cl} (hc:aX c) {l:List Cl} (hl:aq l) (hlen:l.length<2147483648):
  ∀ (r p:List Cl) (m:Nat) (o:List Cl),l=p++r→r.length<m→o.length+r.length<4294967296→p8 k ret c l m (p.length:Int) o=ret (o++dv (r.map (d9 c))):=by
 intro r
 induction r with
 |nil=>
  intro p m o h hm ho
  obtain ⟨m,rfl,hm'⟩:=i9 hm
  grind [p8,wV,ad,dv]
 |cons x r ih=>
  intro p m o h hm ho
  obtain ⟨m,rfl,hm'⟩:=i9 hm
  obtain ⟨e1,e2,e3,e4⟩:=j3 h (by omega)
  have hx:aX x:=hl x (by grind)
  simp only [List.length_cons] at ho
  simp only [p8,wV,e1,ae,e2,Option.bind_some,ag hk,ajc hk hx hc,e3]
  cases hb:kz (d9 c x)<;>grind [ae,J5,dv,ad]
theorem ajj (hk:Fu k) {c:Cl} (hc:aX c) {l:List Cl} (hl:aq l) (hlen:l.length<2147483648) (ret:List Cl→Option S):yM k l c ret=ret (dv (l.map (d9 c))):=by
 simp only [yM,HI]
 have:=ae1 hk ret hc hl hlen l [] k [] rfl (by omega) (by grind)
 grind
theorem aeO (hk:Fu k) (ret:List Cl×Int→Option S) {g f:List Cl} (hf:aq f) (hg:aq g) (hlf:f.length<32768) (hlg:g.length<32768):
  ∀ (r p:List Cl) (m:Nat) (o:List Cl),f=p++r→r.length<m→aq o→o.length+r.length*g.length<1073741825→p_ k ret g f m (p.length:Int) o=ret (bp (o++dv (meets r g))):=by
 intro r
 induction r with
 |nil=>
  intro p m o h hm hok ho
  obtain ⟨m,rfl,hm'⟩:=i9 hm
  grind [p_,wX,ad,ag,kX,meets,dv]
 |cons x r ih=>
  intro p m o h hm hok ho
  obtain ⟨m,rfl,hm'⟩:=i9 hm
  obtain ⟨e1,e2,e3,e4⟩:=j3 h (by omega)
  have hx:aX x:=hf x (by grind)
  have hmul:(x::r).length*g.length=r.length*g.length+g.length:=by grind
  rw [hmul] at ho
  have hcl:=Jy (g.map (d9 x))
  rw [List.length_map] at hcl
  simp only [p_,wX,e1,ae,e2,Option.bind_some,ag hk,ajj hk hx hg (show g.length<2147483648 by omega),e3]
  rw [J5 (by omega),ih (p++[x]) m _ e4 hm' (ami hok fun c hc=>by
   obtain ⟨b,hb,rfl⟩:=List.mem_map.1 (Ds hc).1
   exact Aw hx (hg b hb)) (by grind)]
  grind [dv,meets]
theorem ajg (hk:Fu k) {f g:List Cl} (hf:aq f) (hg:aq g) (h1:f.length<32768) (h2:g.length<32768) (ret:List Cl×Int→Option S):pe k f g ret=ret (amd f g):=by
 simp only [pe,HK]
 have hb:f.length*g.length<1073741824:=Nat.lt_of_le_of_lt (Nat.mul_le_mul (Nat.le_of_lt_succ h1) (Nat.le_of_lt_succ h2)) (by decide)
 have:=aeO hk ret hf hg h1 h2 f [] k [] rfl (by omega) (fun c hc=>by cases hc) (by grind)
 grind [amd,gN]
theorem vo {f g:List Cl} (hf:aq f) (hg:aq g) (h:(amd f g).2=0):RFa (amd f g).1:=Fc (ND hf hg) h
theorem Um {s i:Int} {j:Nat} (h:(alW s i).toNat.testBit j=true):s.toNat.testBit j=true:=by
 grind [alW,Int.toNat_natCast,mm]
theorem calm_bits {c:Cl}:bS c=false↔ ∀j,¬ (c.pos.toNat.testBit j=true∧c.neg.toNat.testBit j=true):=by
 unfold bS
 rw [Bool.not_eq_false',decide_eq_true_eq]
 constructor
 ·intro h j ⟨h1,h2⟩
  have:(c.pos.toNat&&&c.neg.toNat).testBit j=true:=by grind
  grind
 ·intro h
  apply Nat.eq_of_testBit_eq
  grind
theorem Aa {c:Cl} {i:Int} (h:bS c=false):bS (gap i c)=false:=by
 rw [calm_bits] at h ⊢
 exact fun j ⟨h1,h2⟩=>h j ⟨Um h1,Um h2⟩
def al8 (i:Int) (c:Cl) (h:List Cl) (q:List Cl×Int):List Cl×Int:=
 if q.2=0 then if (amd [gap i c] q.1).2=0 then alO h (amd [gap i c] q.1).1 else ([],(amd [gap i c] q.1).2) else ([],q.2)
def alL (i:Int) (r h:List Cl) (c:Cl):List Cl×Int:=
 if bP c.pos i then al8 i c h (ofS r) else if bP c.neg i then al8 i c h (ofZ r) else alO h [gap i c]
def iG (f:List Cl) (i:Int) (r:List Cl):List Cl×Int:=if cV f&&bF r&&lL i then adU (alL i r) [] f else ([],2)
theorem N6 {i:Int} {c:Cl} {h:List Cl} {q:List Cl×Int} (hh:RFa h) (hq:q.2=0→RFa q.1) (h0:(al8 i c h q).2=0):RFa (al8 i c h q).1:=by
 unfold al8 at h0 ⊢
 split
 ·next h1=>
  rw [if_pos h1] at h0
  split
  ·next h2=>rw [if_pos h2] at h0;exact Af hh (vo (gS (kg i c)).2 (hq h1).1.2 h2) h0
  grind
 grind
theorem ahL {i:Int} {r h:List Cl} {c:Cl} (hr:RF r) (hh:RFa h) (hc:bS c=false) (h0:(alL i r h c).2=0):RFa (alL i r h c).1:=by
 unfold alL at h0 ⊢
 split
 ·next h1=>rw [if_pos h1] at h0;exact N6 hh (fun h=>FT h hr.2) h0
 ·next h1=>
  rw [if_neg h1] at h0
  split
  ·next h2=>rw [if_pos h2] at h0;exact N6 hh (fun h=>FU h hr.2) h0
  grind [Af,Bn,kg,Aa]
theorem acX {i:Int} {r:List Cl} (hr:RF r): ∀ {l h:List Cl},(∀c∈l,bS c=false)→RFa h→(adU (alL i r) h l).2=0→RFa (adU (alL i r) h l).1:=by
 intro l
 induction l<;>grind [adU,ahL]
theorem ahO {f r:List Cl} {i:Int} (hf:aq f) (hr:aq r) (h:(iG f i r).2=0):RFa (iG f i r).1:=by
 unfold iG at h ⊢
 split
 ·next hc=>
  rw [if_pos hc] at h
  simp only [Bool.and_eq_true] at hc
  exact acX ((fF hr).1 hc.1.2) ((oB hf).1 hc.1.1).2 GW h
 grind
theorem faJ (hk:Fu k) (ret:List Cl×Int→Option S) (rec0:Int→List Cl→Option S) (i:Int) (r f:List Cl) {h:List Cl} {v:Int} {g:List Cl} {e:Int} (hh:RF h) (hg:e=0→RF g):
  p7 k ret rec0 i r f v h k g e=if e=0 then if (alO h g).2=0 then rec0 (IntKind.wrap .i64 (v+1)) (alO h g).1 else ret ([],(alO h g).2) else ret ([],e):=by
 obtain ⟨q,hq⟩: ∃q,k=q+1:=⟨k-1,by omega⟩
 have: ∀j,j=q+1→p7 k ret rec0 i r f v h j g e=wU k ret i r f v h rec0 g e:=by rintro j rfl;rfl
 rw [this k hq]
 simp only [wU,bG]
 by_cases h0:e=0
 ·have l1:=hh.len;have l2:=(hg h0).len
  rw [decide_eq_true h0,ae,if_pos h0,ag hk,ajf hk hh.2 (hg h0).2 (by omega) (by omega)]
  grind [ad,ae]
 grind [ad,ae]
theorem aeP (hk:Fu k) (ret:List Cl×Int→Option S) {i:Int} {q:List Cl} (hq:RF q) {l:List Cl} (hl:aq l) (hc: ∀c∈l,bS c=false) (hlen:l.length<2147483648):
  ∀ (r p:List Cl) (m:Nat) (h:List Cl),l=p++r→r.length<m→RFa h→lY k ret i q l m (p.length:Int) h=ret (adU (alL i q) h r):=by
 intro r
 induction r with
 |nil=>
  intro p m h e hm hh
  obtain ⟨m,rfl,hm'⟩:=i9 hm
  simp only [lY,sr,akb e,ad];rfl
 |cons x r ih=>
  intro p m h e hm hh
  obtain ⟨m,rfl,hm'⟩:=i9 hm
  obtain ⟨e1,e2,e3,e4⟩:=j3 e (by omega)
  have hx:aX x:=hl x (by grind)
  have hxc:bS x=false:=hc x (by grind)
  have hg:=Bn (kg i x) (Aa hxc)
  have key: ∀ (g:List Cl) (e:Int),(e=0→RFa g)→(alL i q h x=if e=0 then alO h g else ([],e))→p7 k ret (lY k ret i q l m) i q l (p.length:Int) h k g e=ret (adU (alL i q) h (x::r)):=by
   intro g e hge hput
   rw [faJ hk _ _ _ _ _ hh.1 (fun h=>(hge h).1),adU,hput]
   grind [Af]
  have em: ∀ (s:List Cl),RF s→ ∀ (f:List Cl×Int→Option S),pe k [Cl.mk (alW x.pos i) (alW x.neg i)] s f=f (amd [gap i x] s):=fun s hs f=>ajg hk hg.1.2 hs.2 (by simp) (by have:=hs.len;omega) f
  simp only [lY,sr,e1,ae,e2,Option.bind_some,ag hk,vW hk hx.1,vW hk hx.2,rF hk hx.1,rF hk hx.2,Rp hk hq.2 hq.lt,ajd hk hq.2 hq.lt,bG]
  cases hp:bP x.pos i with
  |true=>
   rw [ae]
   by_cases h1:(ofS q).2=0
   ·have ho:=FT h1 hq.2
    rw [decide_eq_true h1,ae,em _ ho.1]
    exact key _ _ (fun h0=>vo hg.1.2 ho.1.2 h0) (by grind [alL,al8])
   grind [ad,alL,al8]
  |false=>
   rw [ad]
   cases hn:bP x.neg i with
   |true=>
    rw [ae]
    by_cases h1:(ofZ q).2=0
    ·have ho:=FU h1 hq.2
     rw [decide_eq_true h1,ae,em _ ho.1]
     exact key _ _ (fun h0=>vo hg.1.2 ho.1.2 h0) (by grind [alL,al8])
    grind [ad,alL,al8]
   |false=>
    grind [ad,gap,alL]
theorem aje (hk:Fu k) {f r:List Cl} {i:Int} (hf:aq f) (hr:aq r) (h1:f.length<2147483648) (h2:r.length<2147483648) (ret:List Cl×Int→Option S):yJ k f i r ret=ret (iG f i r):=by
 simp only [yJ,HH,ag hk,Hb hk hf h1,ai8 hk,rH hk hr h2]
 unfold iG lL
 cases ha:cV f with
 |false=>rfl
 |true=>
  rw [Bool.not_true,ad]
  by_cases hd:0≤i∧i<24
  ·rw [decide_eq_true hd,Bool.not_true,ad]
   cases hb:bF r with
   |false=>rfl
   |true=>
    rw [Bool.not_true,ad]
    exact aeP hk ret ((fF hr).1 hb) hf ((oB hf).1 ha).2 h1 f [] k [] rfl (by omega) GW
  grind [ae]
end Go.Proofs.YtfkkpkhfjpaafaaGreatDoor
namespace Go.Proofs.YtfkkpkhfjpaafaaGreatDoor
open Go PI
set_option linter.unusedVariables false
set_option linter.unusedSimpArgs false
mutual
def au:Tm→Nat
 | .mk _ _ _ _ ks sys=>1+ay ks+aI sys
def ay:List Tm→Nat
 |[]=>0
 |t::l=>au t+ay l
def aI:List (Br Tm)→Nat
 |[]=>0
 |b::l=>fG b+aI l
def fG:Br Tm→Nat
 | .mk _ ks=>ay ks
end
mutual
def am:Tm→Nat
 | .mk _ _ _ _ ks sys=>max (aH ks) (aO sys)+1
def aH:List Tm→Nat
 |[]=>0
 |t::l=>max (am t) (aH l)
def aO:List (Br Tm)→Nat
 |[]=>0
 |b::l=>max (eB b) (aO l)
def eB:Br Tm→Nat
 | .mk _ ks=>aH ks
end
theorem kZ (b:Br Tm):fG b=ay b.kids:=by cases b;rw [fG]
theorem pD (b:Br Tm):eB b=aH b.kids:=by cases b;rw [eB]
theorem mB (t:Tm):1≤au t:=by cases t;rw [au];omega
theorem k_: ∀ {l:List Tm} {x:Tm},x∈l→au x≤ay l:=by
 intro l
 induction l<;>grind [ay]
theorem we: ∀ {l:List (Br Tm)} {b:Br Tm},b∈l→ay b.kids≤aI l:=by
 intro l
 induction l<;>grind [aI,kZ]
theorem D0: ∀ {l:List Tm} {x:Tm},x∈l→am x≤aH l:=by
 intro l
 induction l<;>grind [aH]
theorem JP: ∀ {l:List (Br Tm)} {b:Br Tm},b∈l→aH b.kids≤aO l:=by
 intro l
 induction l<;>grind [aO,pD]
theorem gq {Q:Tm→Prop} (h: ∀kd n nm r ks sys,(∀x∈ks,Q x)→(∀b∈sys,∀x∈b.kids,Q x)→Q (.mk kd n nm r ks sys)) (t:Tm):Q t:=by
 have: ∀m t,au t≤m→Q t:=by
  intro m
  induction m with
  |zero=>grind [mB]
  |succ m ih=>
   intro t ht
   cases t with
   |mk kd n nm r ks sys=>
    rw [au] at ht
    refine h _ _ _ _ _ _ (fun x hx=>ih x ?_) fun b hb x hx=>ih x ?_
    ·have:=k_ hx;omega
    ·have:=we hb;have:=k_ hx;omega
 exact this _ t (Nat.le_refl _)
def kidsT:List Int:=[-1,0,0,0,2,1,2,2,2,1,1,3,1,3,2,2,1,1,1,0,0,0,4,1,0,0,1,5,2]
def ct (kd:Int):Int:=if kd<0∨kd>28 then-1 else kidsT.getD kd.toNat 0
def bz (kd i:Int):Int:=if (i=1∧(kd=4∨kd=7))∨(i=0∧(kd=5∨kd=22∨kd=27)) then 1 else 0
def bJ (kd i:Int):Int:=if i=0∧(kd=11∨kd=12∨kd=14) then 1 else 0
def cz (kd:Int):Int:=if kd=16 then 2 else if kd=15∨kd=17∨kd=18 then 1 else 0
def av (kd:Int):Int:=if kd=15 then 1 else 0
theorem g7 (kd i:Int):0≤bz kd i∧bz kd i≤1:=by grind [bz]
theorem gr (kd i:Int):0≤bJ kd i∧bJ kd i≤1:=by grind [bJ]
theorem dy (kd:Int):0≤av kd∧av kd≤1:=by grind [av]
def kP (c:UInt8):Bool:=(decide (97≤c.toNat)&&decide (c.toNat≤122))||(decide (65≤c.toNat)&&decide (c.toNat≤90))||decide (c.toNat=95)
def pG (c:UInt8):Bool:=decide (48≤c.toNat)&&decide (c.toNat≤57)
def oe:List UInt8→Bool
 |[]=>false
 |c::l=>kP c&&l.all fun d=>kP d||pG d
def bX (kd dims:Int) (b:Br Tm):Bool:=decide ((b.kids.length:Int)=cz kd)&&(cV b.face&&dg b.face dims)
def cL (vars dims:Int):Tm→Bool
 | .mk kd n nm r ks sys=>
  (decide (ct kd=ks.length)&&(decide (kd=1∨n=0)&&(decide (kd=2∨nm.size=0)&&decide (cz kd=0→sys.length=0))))&&
  (if kd=1 then decide (r.length=0)&&(decide (0≤n)&&decide (vars<0∨n<vars))
   else if kd=2 then decide (r.length=0)&&oe nm.data.toList
   else if kd=13∨kd=21∨kd=26 then bF r&&dg r dims
   else if kd=14 then cV r&&dg r dims
   else sys.all (bX kd dims)&&decide (r.length=0))
def cQ (vars v:Int):Int:=if vars<0 then vars else vars+v
mutual
def a6 (bd:Bool) (vars dims:Int):Tm→Bool
 | .mk kd n nm r ks sys=> !(bd&&decide (dims>24))&&(cL vars dims (.mk kd n nm r ks sys)&&(bO bd vars dims kd 0 ks&&ck bd vars dims kd sys))
def bO (bd:Bool) (vars dims kd:Int) (i:Nat):List Tm→Bool
 |[]=>true
 |t::l=>a6 bd (cQ vars (bz kd i)) (dims+bJ kd i) t&&bO bd vars dims kd (i+1) l
def ck (bd:Bool) (vars dims kd:Int):List (Br Tm)→Bool
 |[]=>true
 |b::l=>jT bd vars dims kd b&&ck bd vars dims kd l
def jT (bd:Bool) (vars dims kd:Int):Br Tm→Bool
 | .mk _ ks=>ca bd vars dims kd ks
def ca (bd:Bool) (vars dims kd:Int):List Tm→Bool
 |[]=>true
 |t::l=>a6 bd vars (dims+av kd) t&&ca bd vars dims kd l
end
def bw (t:Tm):Int:=if am t>200 then 62 else if au t>20000 then 221 else if a6 false (-1) 24 t then 0 else 100
mutual
def OkT:Tm→Prop
 | .mk kd n nm r ks sys=>(aG kd∧aG n∧nm.size<1073741824∧aq r∧r.length<1073741824∧ks.length<1073741824∧sys.length<1073741824)∧aZ ks∧ba sys
def aZ:List Tm→Prop
 |[]=>True
 |t::l=>OkT t∧aZ l
def ba:List (Br Tm)→Prop
 |[]=>True
 |b::l=>fc b∧ba l
def fc:Br Tm→Prop
 | .mk f ks=>(aq f∧f.length<1073741824∧ks.length<1073741824)∧aZ ks
end
theorem okK_iff: ∀ {l:List Tm},aZ l↔ ∀t∈l,OkT t:=by
 intro l
 induction l<;>grind [aZ]
theorem oh {b:Br Tm}:fc b↔(aq b.face∧b.face.length<1073741824∧b.kids.length<1073741824)∧ ∀t∈b.kids,OkT t:=by
 cases b;rw [fc,okK_iff]
theorem NR: ∀ {l:List (Br Tm)},ba l↔ ∀b∈l,(aq b.face∧b.face.length<1073741824∧b.kids.length<1073741824)∧ ∀t∈b.kids,OkT t:=by
 intro l
 induction l<;>grind [ba,oh]
theorem OkT.node {kd n nm r ks sys} (h:OkT (.mk kd n nm r ks sys)):aG kd∧aG n∧nm.size<1073741824∧aq r∧r.length<1073741824∧ks.length<1073741824∧sys.length<1073741824:=by grind [OkT]
theorem OkT.kid {kd n nm r ks sys x} (h:OkT (.mk kd n nm r ks sys)) (hx:x∈ks):OkT x:=by grind [OkT,okK_iff]
theorem OkT.br {kd n nm r ks sys b} (h:OkT (.mk kd n nm r ks sys)) (hb:b∈sys):(aq b.face∧b.face.length<1073741824∧b.kids.length<1073741824)∧ ∀t∈b.kids,OkT t:=by grind [OkT,NR]
theorem Zt {bd:Bool} {vars dims kd:Int}: ∀ {l:List Tm},ca bd vars dims kd l=l.all (a6 bd vars (dims+av kd)):=by
 intro l
 induction l<;>grind [ca]
theorem wH {bd:Bool} {vars dims kd:Int}: ∀ {l:List (Br Tm)},ck bd vars dims kd l=l.all fun b=>b.kids.all (a6 bd vars (dims+av kd)):=by
 intro l
 induction l with
 |nil=>rfl
 |cons b l ih=>cases b;simp_all [ck,jT,Zt]
end Go.Proofs.YtfkkpkhfjpaafaaGreatDoor
namespace Go.Proofs.YtfkkpkhfjpaafaaGreatDoor
open Go PI
set_option linter.unusedVariables false
set_option linter.unusedSimpArgs false
set_option maxRecDepth 100000
section
variable {H:Type} {enc:TypeId×Value→H} {w:World} {base:Nat} {spare:Nat→Bool} {held:Bool} {o:Obj} {N:aN} {g:Gh UU}
noncomputable abbrev jG (enc:TypeId×Value→H) (w:World) (base:Nat) (spare:Nat→Bool) (held:Bool):=DataW.trod enc Tryz.prog w base spare held
def oM (o:Obj) (w:World) (N:aN) (g:Gh UU) (e:ET) (x:EL e) (cs:List Value):Prop:= ∀ (k:Nat) (p:PU),(d6 e x)[k]? =some p→ ∃v,cs[k]? =some v∧Rep (LL o) w N g v p
theorem Dr {l:List (DataW H)}:l.length≤Rows.uptoBulkAll l:=by
 induction l with
 |nil=>simp [Rows.uptoBulkAll]
 |cons x r ih=>
  have:1≤Rows.uptoBulk x:=by
   cases x with
   |lit l=>cases l<;>simp [Rows.uptoBulk]
   |_=>simp [Rows.uptoBulk]
  simp only [Rows.uptoBulkAll,List.length_cons];omega
theorem build {α β:Type} {R:Nat→β→α→Prop}: ∀ (elems:List β) (s:Nat),(∀i d,elems[i]? =some d→ ∃x,R (s+i) d x)→ ∃l:List α,l.length=elems.length∧ ∀i d,elems[i]? =some d→ ∃x,l[i]? =some x∧R (s+i) d x:=by
 intro elems
 induction elems with
 |nil=>intro s h;exact ⟨[],rfl,fun i d h=>by simp at h⟩
 |cons d r ih=>
  intro s h
  obtain ⟨x,hx⟩:=h 0 d rfl
  obtain ⟨l,hl,hr⟩:=ih (s+1) fun i d' hd=>by
   obtain ⟨x,hx⟩:=h (i+1) d' (by simpa using hd)
   exact ⟨x,by rw [show s+1+i=s+(i+1) by omega];exact hx⟩
  refine ⟨x::l,by simp [hl],fun i d' hd=> ?_⟩
  cases i with
  |zero=>injection hd with hd;subst hd;exact ⟨x,rfl,hx⟩
  |succ i=>
   obtain ⟨y,hy,hr⟩:=hr i d' (by simpa using hd)
   exact ⟨y,by simpa using hy,by rw [show s+(i+1)=s+1+i by omega];exact hr⟩
theorem FW (hN: ∀b o,¬N b o) {e:ET} {tS tE:TypeId} (ht:Tryz.prog.underlying tS=some (.slice tE)) (hc:Tryz.prog.cellsOf tE=pQ e) {Q:EL e→DataW H→Prop} {n:Nat} {cs:List Value} {d:DataW H} {pl:List MemPlace}
  (hel: ∀ (cs:List Value) (d:DataW H) (pl:List MemPlace),jG enc w base spare held n tE cs=some (d,pl)→ ∃x:EL e,oM o w N g e x cs∧Q x d) (h:jG enc w base spare held (n+1) tS cs=some (d,pl)):
  ∃ (v:Value) (l:List (EL e)) (ds:List (DataW H)),cs=[v]∧Rep (LL o) w N g v (.sl (U:=UU) e l .none)∧l.length=ds.length∧(∀ (i:Nat) (x:EL e) (y:DataW H),l[i]? =some x→ds[i]? =some y→Q x y)∧Rows.uptoBulkAll ds+1≤Rows.uptoBulk d:=by
 rcases DataW.trod_slice ht h with ⟨rfl,hx⟩|⟨a,len,cap,elems,rest,m,hm,rfl,hx,hb,hl,hcp,hlen,hee,_,_⟩
 ·injection hx with hx _
  subst hx
  exact ⟨_,[],[],rfl,Rep.sl (X:=LL o) (N:=N) (g:=g) none 0 0 e (show List (EL e) from []) .none (fun _ _=>undef) rfl (Nat.le_refl _) trivial (fun j x hx=>by cases hx) (fun j x hx=>by cases hx),rfl,fun i x y h=>by simp at h,by simp [Rows.uptoBulkAll,Rows.uptoBulk]⟩
 ·obtain rfl:n=m:=by omega
  injection hx with hx _
  subst hx
  obtain ⟨l,hll,hlr⟩:=build (R:=fun i (y:DataW H×List MemPlace) (x:EL e)=> ∃cs',w.cells? base (a.add (i*Tryz.prog.cellsOf tE)) (Tryz.prog.cellsOf tE)=some cs'∧oM o w N g e x cs'∧Q x y.1) elems 0 fun i y hy=>by
   have hi:i<len:=by rw [←hlen];exact (List.getElem?_eq_some_iff.1 hy).1
   have:=hee i hi
   rw [hy] at this
   obtain ⟨cs',h1,h2⟩:=Option.bind_eq_some_iff.1 this
   obtain ⟨x,hx1,hx2⟩:=hel cs' y.1 y.2 h2
   exact ⟨x,cs',by simpa using h1,hx1,hx2⟩
  have hget: ∀ (j:Nat) (x:EL e),l[j]? =some x→ ∃ (y:DataW H×List MemPlace) (cs':List Value),elems[j]? =some y∧w.cells? base (a.add (j*Tryz.prog.cellsOf tE)) (Tryz.prog.cellsOf tE)=some cs'∧oM o w N g e x cs'∧Q x y.1:=fun j x hx=>by
   have hj:j<elems.length:=by rw [←hll];exact (List.getElem?_eq_some_iff.1 hx).1
   obtain ⟨x',hx',cs',h1,h2,h3⟩:=hlr j _ (List.getElem?_eq_getElem hj)
   rw [hx] at hx'
   injection hx' with hx'
   subst hx'
   exact ⟨_,cs',List.getElem?_eq_getElem hj,by simpa using h1,h2,h3⟩
  have hcell: ∀ (j:Nat) (x:EL e),l[j]? =some x→ ∀ (k:Nat) (p:PU),(d6 e x)[k]? =some p→ ∃v,w.cell? (a.add (j*(LL o).esize e+k))=some v∧Rep (LL o) w N g v p:=fun j x hx k p hp=>by
   obtain ⟨y,cs',_,h1,h2,_⟩:=hget j x hx
   obtain ⟨v,hv,hr⟩:=h2 k p hp
   obtain ⟨_,hl',hcs⟩:=World.cells?_some h1
   have hk:k<Tryz.prog.cellsOf tE:=by rw [←hl'];exact (List.getElem?_eq_some_iff.1 hv).1
   have:=hcs k hk
   rw [hv,Go.Deep.add_add,hc] at this
   exact ⟨v,this,hr⟩
  refine ⟨_,l,elems.map (·.1),rfl,Rep.sl (X:=LL o) (some a) len cap e l .none (fun j k=>(w.cell? (a.add (j*(LL o).esize e+k))).getD undef) (by rw [←hlen];exact hll) hl trivial (fun j x hx k p hp=> ?_) (fun j x hx k p hp=> ?_),by simpa using hll,fun i x y hx hy=> ?_,by simp [Rows.uptoBulk]⟩
  ·obtain ⟨v,hv,_⟩:=hcell j x hx k p hp
   exact ⟨a,rfl,by simp [hv],hN _ _⟩
  ·obtain ⟨v,hv,hr⟩:=hcell j x hx k p hp
   simp only [hv];exact hr
  ·obtain ⟨y',cs',h1,_,_,h3⟩:=hget i x hx
   have:y=y'.1:=by
    rw [List.getElem?_map,h1] at hy
    injection hy with hy;exact hy.symm
   subst this
   exact h3
theorem NT {n:Nat} {cs:List Value} {d:DataW H} {pl:List MemPlace} (h:jG enc w base spare held n 3 cs=some (d,pl)): ∃z,cs=[.int .i64 z]∧aG z:=by
 obtain ⟨z,rfl,_,hw⟩:=DataW.trod_int Tryz.underlying3 h
 refine ⟨z,rfl, ?_⟩
 simp [Lit.wf,IntKind.has] at hw
 have h1:IntKind.i64.min= -9223372036854775808:=rfl
 have h2:IntKind.i64.max=9223372036854775807:=rfl
 unfold aG
 omega
theorem NU {n:Nat} {cs:List Value} {d:DataW H} {pl:List MemPlace} (h:jG enc w base spare held n 44 cs=some (d,pl)): ∃z,cs=[.int .u32 z]∧U32 z:=by
 obtain ⟨z,rfl,_,hw⟩:=DataW.trod_int Tryz.underlying44 h
 refine ⟨z,rfl, ?_⟩
 simp [Lit.wf,IntKind.has] at hw
 have h1:IntKind.u32.min=0:=rfl
 have h2:IntKind.u32.max=4294967295:=rfl
 unfold U32
 omega
def QC (c:Cl) (d:DataW H):Prop:=aX c
def QT (t:Tm) (d:DataW H):Prop:=au t≤Rows.uptoBulk d∧(Rows.uptoBulk d<1073741824→OkT t)
def QB (b:Br Tm) (d:DataW H):Prop:=fG b≤Rows.uptoBulk d∧(Rows.uptoBulk d<1073741824→(aq b.face∧b.face.length<1073741824∧b.kids.length<1073741824)∧ ∀t∈b.kids,OkT t)
theorem ahv {n:Nat} {cs:List Value} {d:DataW H} {pl:List MemPlace} (h:jG enc w base spare held n 46 cs=some (d,pl)): ∃x:EL ET.C,oM o w N g ET.C x cs∧QC (show Cl from x) d:=by
 obtain ⟨xs,m,rfl,_,hl,hlen,hf⟩:=DataW.trod_struct Tryz.underlying46 h
 have hl2:cs.length=2:=hl.trans (by kernel_rfl)
 match cs,hl2,xs,hlen with
 |[a,b],_,[y0,y1],_=>
 have h0:=hf 0 _ rfl
 have h1:=hf 1 _ rfl
 have c44:Tryz.prog.cellsOf 44=1:=by kernel_rfl
 simp [c44] at h0 h1
 obtain ⟨z0,e0,k0⟩:=NU h0
 obtain ⟨z1,e1,k1⟩:=NU h1
 obtain rfl:a= .int .u32 z0:=by simpa using e0
 obtain rfl:b= .int .u32 z1:=by simpa using e1
 refine ⟨(⟨z0,z1⟩:Cl),fun k p hp=> ?_,⟨k0,k1⟩⟩
 match k,hp with
 |0,hp=>cases hp;exact ⟨_,rfl,.int _ _⟩
 |1,hp=>cases hp;exact ⟨_,rfl,.int _ _⟩
 |k+2,hp=>simp [d6] at hp
theorem akx {l:List Tm} {ds:List (DataW H)} (hl:l.length=ds.length) (h: ∀ (i:Nat) (x:Tm) (y:DataW H),l[i]? =some x→ds[i]? =some y→QT x y):ay l≤Rows.uptoBulkAll ds∧(Rows.uptoBulkAll ds<1073741824→ ∀t∈l,OkT t):=by
 induction l generalizing ds with
 |nil=>rw [ay];exact ⟨Nat.zero_le _,fun _ t ht=>by cases ht⟩
 |cons t l ih=>
  cases ds with
  |nil=>cases hl
  |cons d ds=>
   obtain ⟨h1,h2⟩:=h 0 t d rfl rfl
   obtain ⟨i1,i2⟩:=ih (ds:=ds) (by simpa using hl) fun i x y hx hy=>h (i+1) x y (by simpa using hx) (by simpa using hy)
   rw [ay,Rows.uptoBulkAll]
   refine ⟨by omega,fun hb u hu=> ?_⟩
   rcases List.mem_cons.1 hu with rfl|hu
   ·exact h2 (by omega)
   ·exact i2 (by omega) u hu
theorem aky {l:List (Br Tm)} {ds:List (DataW H)} (hl:l.length=ds.length) (h: ∀ (i:Nat) (x:Br Tm) (y:DataW H),l[i]? =some x→ds[i]? =some y→QB x y):aI l≤Rows.uptoBulkAll ds∧(Rows.uptoBulkAll ds<1073741824→ba l):=by
 induction l generalizing ds with
 |nil=>rw [aI,ba];exact ⟨Nat.zero_le _,fun _=>trivial⟩
 |cons t l ih=>
  cases ds with
  |nil=>cases hl
  |cons d ds=>
   obtain ⟨h1,h2⟩:=h 0 t d rfl rfl
   obtain ⟨i1,i2⟩:=ih (ds:=ds) (by simpa using hl) fun i x y hx hy=>h (i+1) x y (by simpa using hx) (by simpa using hy)
   rw [aI,Rows.uptoBulkAll,ba,oh]
   exact ⟨by omega,fun hb=>⟨h2 (by omega),i2 (by omega)⟩⟩
theorem NS (hN: ∀b o,¬N b o) {n:Nat} {cs:List Value} {d:DataW H} {pl:List MemPlace} (h:jG enc w base spare held n 22 cs=some (d,pl)):
  ∃ (v:Value) (l:List Cl),cs=[v]∧Rep (LL o) w N g v (bZ l .none)∧aq l∧l.length+1≤Rows.uptoBulk d:=by
 cases n with
 |zero=>cases h
 |succ n=>
  obtain ⟨v,l,ds,rfl,hr,hl,hq,hb⟩:=FW (e:=ET.C) (Q:=fun x d=>QC (show Cl from x) d) hN Tryz.underlying22 (by kernel_rfl) (fun cs d pl h=>ahv h) h
  refine ⟨v,l,rfl,hr,fun c hc=> ?_, ?_⟩
  ·obtain ⟨i,hi⟩:=List.getElem?_of_mem hc
   have hlt:i<ds.length:=by rw [←hl];exact (List.getElem?_eq_some_iff.1 hi).1
   exact hq i c _ hi (List.getElem?_eq_getElem hlt)
  ·have:=Dr (l:=ds)
   have hl': @List.length Cl l=ds.length:=hl
   omega
theorem ahu (hN: ∀b o,¬N b o): ∀ (n:Nat),
  (∀ (cs:List Value) (d:DataW H) (pl:List MemPlace),jG enc w base spare held n 26 cs=some (d,pl)→ ∃x:EL ET.T,oM o w N g ET.T x cs∧QT (show Tm from x) d)∧
  (∀ (cs:List Value) (d:DataW H) (pl:List MemPlace),jG enc w base spare held n 40 cs=some (d,pl)→ ∃x:EL ET.B,oM o w N g ET.B x cs∧QB (show Br Tm from x) d)∧
  (∀ (cs:List Value) (d:DataW H) (pl:List MemPlace),jG enc w base spare held n 23 cs=some (d,pl)→ ∃ (v:Value) (l:List Tm),cs=[v]∧Rep (LL o) w N g v (dO l .none)∧ay l+1≤Rows.uptoBulk d∧l.length+1≤Rows.uptoBulk d∧(Rows.uptoBulk d<1073741824→ ∀t∈l,OkT t))∧
  (∀ (cs:List Value) (d:DataW H) (pl:List MemPlace),jG enc w base spare held n 24 cs=some (d,pl)→ ∃ (v:Value) (l:List (Br Tm)),cs=[v]∧Rep (LL o) w N g v (dN l .none)∧aI l+1≤Rows.uptoBulk d∧l.length+1≤Rows.uptoBulk d∧(Rows.uptoBulk d<1073741824→ba l)):=by
 intro n
 induction n with
 |zero=>exact ⟨fun cs d pl h=>(by cases h),fun cs d pl h=>(by cases h),fun cs d pl h=>(by cases h),fun cs d pl h=>(by cases h)⟩
 |succ n ih=>
 obtain ⟨iT,iB,iK,iS⟩:=ih
 have c3:Tryz.prog.cellsOf 3=1:=by kernel_rfl
 have c9:Tryz.prog.cellsOf 9=1:=by kernel_rfl
 have c22:Tryz.prog.cellsOf 22=1:=by kernel_rfl
 have c23:Tryz.prog.cellsOf 23=1:=by kernel_rfl
 have c24:Tryz.prog.cellsOf 24=1:=by kernel_rfl
 refine ⟨fun cs d pl h=> ?_,fun cs d pl h=> ?_,fun cs d pl h=> ?_,fun cs d pl h=> ?_⟩
 ·obtain ⟨xs,m,hm,hx,hl,hlen,hf⟩:=DataW.trod_struct Tryz.underlying26 h
  obtain rfl:n=m:=by omega
  injection hx with hx _
  subst hx
  have hl6:cs.length=6:=hl.trans (by kernel_rfl)
  match cs,hl6,xs,hlen with
  |[a0,a1,a2,a3,a4,a5],_,[y0,y1,y2,y3,y4,y5],_=>
  have h0:=hf 0 _ rfl
  have h1:=hf 1 _ rfl
  have h2:=hf 2 _ rfl
  have h3:=hf 3 _ rfl
  have h4:=hf 4 _ rfl
  have h5:=hf 5 _ rfl
  simp [c3,c9,c22,c23,c24] at h0 h1 h2 h3 h4 h5
  obtain ⟨z0,e0,k0⟩:=NT h0
  obtain ⟨z1,e1,k1⟩:=NT h1
  obtain ⟨s,e2,k2,_⟩:=DataW.trod_string Tryz.underlying9 h2
  obtain ⟨v3,l3,e3,r3,k3,m3⟩:=NS (o:=o) (g:=g) hN h3
  obtain ⟨v4,l4,e4,r4,k4,m4,q4⟩:=iK _ _ _ h4
  obtain ⟨v5,l5,e5,r5,k5,m5,q5⟩:=iS _ _ _ h5
  obtain rfl:a0= .int .i64 z0:=by simpa using e0
  obtain rfl:a1= .int .i64 z1:=by simpa using e1
  obtain rfl:a2= .string s:=by simpa using e2
  obtain rfl:a3=v3:=by simpa using e3
  obtain rfl:a4=v4:=by simpa using e4
  obtain rfl:a5=v5:=by simpa using e5
  have hs:s.size<Rows.uptoBulk y2.1:=by
   rw [k2]
   simp [Rows.uptoBulk]
  refine ⟨Tm.mk z0 z1 s l3 l4 l5,fun k p hp=> ?_, ?_,fun hb=> ?_⟩
  ·match k,hp with
   |0,hp=>cases hp;exact ⟨_,rfl,.int _ _⟩
   |1,hp=>cases hp;exact ⟨_,rfl,.int _ _⟩
   |2,hp=>cases hp;exact ⟨_,rfl,.str _⟩
   |3,hp=>cases hp;exact ⟨_,rfl,r3⟩
   |4,hp=>cases hp;exact ⟨_,rfl,r4⟩
   |5,hp=>cases hp;exact ⟨_,rfl,r5⟩
   |k+6,hp=>simp [d6] at hp
  ·show au _≤_
   rw [au]
   simp only [List.map_cons,List.map_nil,Rows.uptoBulk,Rows.uptoBulkAll]
   omega
  ·simp only [List.map_cons,List.map_nil,Rows.uptoBulk,Rows.uptoBulkAll] at hb
   show OkT _
   rw [OkT,okK_iff]
   exact ⟨⟨k0,k1,by omega,k3,by omega,by omega,by omega⟩,q4 (by omega),q5 (by omega)⟩
 ·obtain ⟨xs,m,hm,hx,hl,hlen,hf⟩:=DataW.trod_struct Tryz.underlying40 h
  obtain rfl:n=m:=by omega
  injection hx with hx _
  subst hx
  have hl2:cs.length=2:=hl.trans (by kernel_rfl)
  match cs,hl2,xs,hlen with
  |[a0,a1],_,[y0,y1],_=>
  have h0:=hf 0 _ rfl
  have h1:=hf 1 _ rfl
  simp [c22,c23] at h0 h1
  obtain ⟨v3,l3,e3,r3,k3,m3⟩:=NS (o:=o) (g:=g) hN h0
  obtain ⟨v4,l4,e4,r4,k4,m4,q4⟩:=iK _ _ _ h1
  obtain rfl:a0=v3:=by simpa using e3
  obtain rfl:a1=v4:=by simpa using e4
  refine ⟨Br.mk l3 l4,fun k p hp=> ?_, ?_,fun hb=> ?_⟩
  ·match k,hp with
   |0,hp=>cases hp;exact ⟨_,rfl,r3⟩
   |1,hp=>cases hp;exact ⟨_,rfl,r4⟩
   |k+2,hp=>simp [d6] at hp
  ·show fG _≤_
   rw [fG]
   simp only [List.map_cons,List.map_nil,Rows.uptoBulk,Rows.uptoBulkAll]
   omega
  ·simp only [List.map_cons,List.map_nil,Rows.uptoBulk,Rows.uptoBulkAll] at hb
   exact ⟨⟨k3,by show l3.length<_;omega,by show l4.length<_;omega⟩,q4 (by omega)⟩
 ·obtain ⟨v,l,ds,rfl,hr,hl,hq,hb⟩:=FW (e:=ET.T) (Q:=fun x d=>QT (show Tm from x) d) hN Tryz.underlying23 (by kernel_rfl) iT h
  obtain ⟨s1,s2⟩:=akx (l:=l) hl hq
  have:=Dr (l:=ds)
  have hl': @List.length Tm l=ds.length:=hl
  exact ⟨v,l,rfl,hr,by omega,by omega,fun hd=>s2 (by omega)⟩
 ·obtain ⟨v,l,ds,rfl,hr,hl,hq,hb⟩:=FW (e:=ET.B) (Q:=fun x d=>QB (show Br Tm from x) d) hN Tryz.underlying24 (by kernel_rfl) iB h
  obtain ⟨s1,s2⟩:=aky (l:=l) hl hq
  have:=Dr (l:=ds)
  have hl': @List.length (Br Tm) l=ds.length:=hl
  exact ⟨v,l,rfl,hr,by omega,by omega,fun hd=>s2 (by omega)⟩
end
end Go.Proofs.YtfkkpkhfjpaafaaGreatDoor
namespace Go.Proofs
open Go.Shelf
def Tryz.sortCl_ren:Go.Shelf.Ren:=⟨fun|6=>170|15=>233|14=>232|28=>278|29=>279|20=>270|21=>271|22=>272|23=>273|24=>274|25=>275|26=>276|27=>277|46=>298|47=>299|48=>300|49=>301|50=>302|57=>314|n=>n,fun|22=>22|24=>46|25=>155|3=>3|39=>139|0=>0|53=>44|55=>190|4=>4|46=>209|45=>208|50=>213|5=>5|9=>9|66=>225|70=>229|76=>233|77=>58|n=>n,fun|n=>n⟩
theorem Tryz.sortCl:Go.Proofs.SlLaysF0.n6 Tryz.prog Tryz.sortCl_ren:={
 mixed:=by kernel_rfl
 f6:=⟨Tryz.f170.name,by decide,Tryz.func170.trans (congrArg some (by kernel_rfl))⟩
 f14:=⟨Tryz.f232.name,by decide,Tryz.func232.trans (congrArg some (by kernel_rfl))⟩
 f15:=Tryz.func233.trans (congrArg some (by kernel_rfl))
 f20:=⟨Tryz.f270.name,by decide,Tryz.func270.trans (congrArg some (by kernel_rfl))⟩
 f21:=⟨Tryz.f271.name,by decide,Tryz.func271.trans (congrArg some (by kernel_rfl))⟩
 f22:=⟨Tryz.f272.name,by decide,Tryz.func272.trans (congrArg some (by kernel_rfl))⟩
 f23:=⟨Tryz.f273.name,by decide,Tryz.func273.trans (congrArg some (by kernel_rfl))⟩
 f24:=⟨Tryz.f274.name,by decide,Tryz.func274.trans (congrArg some (by kernel_rfl))⟩
 f25:=⟨Tryz.f275.name,by decide,Tryz.func275.trans (congrArg some (by kernel_rfl))⟩
 f26:=⟨Tryz.f276.name,by decide,Tryz.func276.trans (congrArg some (by kernel_rfl))⟩
 f27:=⟨Tryz.f277.name,by decide,Tryz.func277.trans (congrArg some (by kernel_rfl))⟩
 f28:=Tryz.func278.trans (congrArg some (by kernel_rfl))
 f29:=Tryz.func279.trans (congrArg some (by kernel_rfl))
 f46:=⟨Tryz.f298.name,by decide,Tryz.func298.trans (congrArg some (by kernel_rfl))⟩
 f47:=Tryz.func299.trans (congrArg some (by kernel_rfl))
 f48:=Tryz.func300.trans (congrArg some (by kernel_rfl))
 f49:=⟨Tryz.f301.name,by decide,Tryz.func301.trans (congrArg some (by kernel_rfl))⟩
 f50:=⟨Tryz.f302.name,by decide,Tryz.func302.trans (congrArg some (by kernel_rfl))⟩
 f57:=⟨Tryz.f314.name,by decide,Tryz.func314.trans (congrArg some (by kernel_rfl))⟩
 t0:=Tryz.underlying0
 a0:=Tryz.isAgg0
 z0:=Tryz.sizeOf0
 v0:=Tryz.zeroValue0
 t3:=Tryz.underlying3
 a3:=Tryz.isAgg3
 z3:=Tryz.sizeOf3
 v3:=Tryz.zeroValue3
 t4:=Tryz.underlying4
 a4:=Tryz.isAgg4
 z4:=Tryz.sizeOf4
 v4:=Tryz.zeroValue4
 t5:=Tryz.underlying5
 a5:=Tryz.isAgg5
 z5:=Tryz.sizeOf5
 v5:=Tryz.zeroValue5
 t9:=Tryz.underlying9
 a9:=Tryz.isAgg9
 z9:=Tryz.sizeOf9
 v9:=Tryz.zeroValue9
 t22:=Tryz.underlying22
 a22:=Tryz.isAgg22
 z22:=Tryz.sizeOf22
 v22:=Tryz.zeroValue22
 t25:=Tryz.underlying155
 a25:=Tryz.isAgg155
 z25:=Tryz.sizeOf155
 v25:=Tryz.zeroValue155
 t39:=Tryz.underlying139
 a39:=Tryz.isAgg139
 z39:=Tryz.sizeOf139
 v39:=Tryz.zeroValue139
 t45:=Tryz.underlying208
 a45:=Tryz.isAgg208
 z45:=Tryz.sizeOf208
 v45:=Tryz.zeroValue208
 t46:=Tryz.underlying209
 a46:=Tryz.isAgg209
 z46:=Tryz.sizeOf209
 v46:=Tryz.zeroValue209
 t50:=Tryz.underlying213
 a50:=Tryz.isAgg213
 z50:=Tryz.sizeOf213
 v50:=Tryz.zeroValue213
 t53:=Tryz.underlying44
 a53:=Tryz.isAgg44
 z53:=Tryz.sizeOf44
 v53:=Tryz.zeroValue44
 t55:=Tryz.underlying190
 a55:=Tryz.isAgg190
 z55:=Tryz.sizeOf190
 v55:=Tryz.zeroValue190
 t66:=Tryz.underlying225
 a66:=Tryz.isAgg225
 z66:=Tryz.sizeOf225
 v66:=Tryz.zeroValue225
 t70:=Tryz.underlying229
 a70:=Tryz.isAgg229
 z70:=Tryz.sizeOf229
 v70:=Tryz.zeroValue229
 t76:=Tryz.underlying233
 a76:=Tryz.isAgg233
 z76:=Tryz.sizeOf233
 v76:=Tryz.zeroValue233
 t77:=Tryz.underlying58
 a77:=Tryz.isAgg58
 z77:=Tryz.sizeOf58
 v77:=Tryz.zeroValue58}
end Go.Proofs
namespace Go.Proofs.YtfkkpkhfjpaafaaGreatDoor
open Go PI
set_option linter.unusedVariables false
set_option maxRecDepth 100000
noncomputable section
def acN:Nat:=313
def acO:Nat:=48
noncomputable def G2 {S:Type}:List PU→List (Box UU)→(Out UU→Option S)→Option S
 |[.sl .C y0 .none],[],κ=>rj y0 fun r=>κ (.ret (bZ r .none) [])
 |_,_,_=> .none
noncomputable def GZ {S:Type}:List PU→List (Box UU)→(Out UU→Option S)→Option S
 |[.int .u32 y0],[],κ=>vz y0 fun r=>κ (.ret (la r .none) [])
 |_,_,_=> .none
end
end Go.Proofs.YtfkkpkhfjpaafaaGreatDoor
namespace Go.Proofs
open Go.Shelf Go.RowKit
set_option maxHeartbeats 1000000 in
theorem Tryz.tz32_core (x k idx:Nat) (w:World) (hx0:((x:Int)==0)=false)
  (key:bits BinOp.and IntKind.u32 (x:Int) (-(x:Int)%4294967296)*125613361%4294967296/134217728=(idx:Int))
  (hi:idx<32) (hk:k<32) (hcell:w.cell? ⟨0,idx,none⟩=some (.int .u8 k)):
  Calls Tryz.prog 323 #[.int .u32 x] w fun e w'=>e= .returned (.int .i64 k)∧w'=w:=by
 go_enter Tryz.func323,Tryz.ntmps323
 go_wp2_with (simp only [key])
 go_ret
 exact ⟨rfl,rfl⟩
theorem Tryz.tz32 (x:Nat) (hx:x<4294967296) (h0:x≠0) (w:World) (hT:TabAt 0 Lib.deBruijn32tab w):
  Calls Tryz.prog 323 #[.int .u32 x] w fun e w'=>e= .returned (.int .i64 (Lib.ctz 32 x))∧w'=w:=by
 obtain ⟨hlow,hk⟩:=Lib.lowest_bit 32 x h0 hx
 obtain ⟨hi,htab⟩:=Lib.deBruijn32_at _ hk
 have hcell:=hT _ hi
 rw [htab] at hcell
 exact Tryz.tz32_core x _ _ w (by simp;omega) (tz32_key x _ hx h0 hlow) hi hk hcell
end Go.Proofs
namespace Go.Proofs.YtfkkpkhfjpaafaaGreatDoor
open Go Go.Shelf Go.RowKit
attribute [local go_sem] Oper.semAt_some
def eL (s:Nat):List Nat:=(List.range 24).filter s.testBit
theorem ak1 (s:Nat) (h0:s≠0) (h:s<16777216):eL s=Lib.ctz 32 s::eL (s&&&(s-1))∧s&&&(s-1)<s:=by
 obtain ⟨m,hm,hk⟩:=Lib.ctzFrom_spec 32 s (by omega) (by omega)
 have e:Lib.ctz 32 s=Lib.ctzFrom 32 s:=by simp [Lib.ctz,h0]
 rw [e]
 generalize Lib.ctzFrom 32 s=t at hm hk
 have hs:s=2^(t+1)*m+2^t:=by
  rw [hm,Nat.mul_add,Nat.mul_one,Nat.pow_succ,←Nat.mul_assoc]
 have hp:0<2^t:=Nat.two_pow_pos t
 have hp2:2^(t+1)=2^t*2:=Nat.pow_succ 2 t
 have hs1:s-1=2^(t+1)*m+(2^t-1):=by omega
 have b1: ∀j,s.testBit j=if j<t+1 then decide (t=j) else m.testBit (j-(t+1)):=fun j=>by
  rw [hs,Nat.testBit_two_pow_mul_add _ (by omega),Nat.testBit_two_pow]
 have b2: ∀j,(s-1).testBit j=if j<t+1 then decide (j<t) else m.testBit (j-(t+1)):=fun j=>by
  rw [hs1,Nat.testBit_two_pow_mul_add _ (by omega),Nat.testBit_two_pow_sub_one]
 have b3: ∀j,(s&&&(s-1)).testBit j=if j<t+1 then false else m.testBit (j-(t+1)):=fun j=>by
  rw [Nat.testBit_and,b1,b2]
  by_cases hj:j<t+1
  ·rw [if_pos hj,if_pos hj,if_pos hj]
   by_cases ht:t=j
   ·rw [decide_eq_true ht,decide_eq_false (by omega)];rfl
   ·rw [decide_eq_false ht];rfl
  ·rw [if_neg hj,if_neg hj,if_neg hj,Bool.and_self]
 have b4:s&&&(s-1)=2^(t+1)*m:=by
  apply Nat.eq_of_testBit_eq
  intro j
  rw [b3]
  have:2^(t+1)*m=2^(t+1)*m+0:=rfl
  rw [this,Nat.testBit_two_pow_mul_add _ (by omega),Nat.zero_testBit]
 have ht:t<24:=by
  apply Nat.lt_of_not_le
  intro hle
  have:2^24≤2^t:=Nat.pow_le_pow_right (by decide) hle
  have h24:(2:Nat)^24=16777216:=by decide
  omega
 refine ⟨?_,by omega⟩
 unfold eL
 have hr:List.range 24=List.range t++(t::(List.range (23-t)).map (fun j=>t+1+j)):=by
  apply List.ext_getElem
  ·simp;omega
  ·intro i h1 h2
   simp only [List.getElem_range]
   by_cases hi:i<t
   ·rw [List.getElem_append_left (by simpa using hi)];simp
   ·rw [List.getElem_append_right (by simpa using hi)]
    simp only [List.length_range]
    by_cases he:i=t
    ·subst he;simp
    ·obtain ⟨d,rfl⟩: ∃d,i=t+1+d:=⟨i-t-1,by omega⟩
     simp only [show t+1+d-t=d+1 by omega,List.getElem_cons_succ,List.getElem_map,List.getElem_range]
 rw [hr,List.filter_append,List.filter_append]
 have f1:(List.range t).filter s.testBit=[]:=List.filter_eq_nil_iff.2 fun j hj=>by
  have:=List.mem_range.1 hj
  rw [b1,if_pos (by omega),decide_eq_false (by omega)];decide
 have f2:(List.range t).filter (s&&&(s-1)).testBit=[]:=List.filter_eq_nil_iff.2 fun j hj=>by
  have:=List.mem_range.1 hj
  rw [b3,if_pos (by omega)];decide
 rw [f1,f2,List.nil_append,List.nil_append,List.filter_cons_of_pos (by rw [b1,if_pos (by omega)];simp),List.filter_cons_of_neg (by rw [b3,if_pos (by omega)];decide)]
 congr 1
 apply List.filter_congr
 intro j hj
 obtain ⟨d,_,rfl⟩:=List.mem_map.1 hj
 rw [b1,b3,if_neg (by omega),if_neg (by omega)]
theorem akZ:eL 0=[]:=List.filter_eq_nil_iff.2 fun j _=>by rw [Nat.zero_testBit];decide
theorem ak0 (s:Nat):(eL s).length≤24:=by
 have:=List.length_filter_le s.testBit (List.range 24)
 simpa [eL] using this
theorem adi (s:Int) (w:World):Calls Tryz.prog 319 #[.int .u32 s] w fun e w'=>e= .returned (.func (.func 322) #[] #[.pointer (some ⟨w.heap.size,0,none⟩)])∧w'=w.alloc (.cells #[.int .u32 s] 44):=by
 go_enter Tryz.func319,Tryz.ntmps319
 go_wp2
 go_ret
 exact ⟨rfl,rfl⟩
def Fo:Code:=(Code.region 3 #[{dst:=some 4,op:=Op.assign (Operand.tmp 7),type:=3,pos:= "mask.go:57",after:= #[],guard:=none}] false)
def Fp:Code:=(Code.block 1 (Code.region 4 #[{dst:=some 8,op:=Op.load 101 (Operand.tmp 3),type:=101,pos:= "mask.go:58",after:= #[],guard:=none},{dst:=some 9,op:=Op.move (Operand.tmp 4),type:=3,pos:= "mask.go:58",after:= #[],guard:=none},{dst:=some 10,op:=Op.buildSlice 101 1 #[(0,Operand.tmp 9)],type:=101,pos:= "mask.go:58",after:= #[{on:=1,ground:=Ground.data}],guard:=none},{dst:=some 11,op:=Op.call {callee:=Callee.builtin Builtin.append,args:= #[Operand.tmp 8,Operand.tmp 10],argTypes:= #[101,101]},type:=101,pos:= "mask.go:58",after:= #[{on:=0,ground:=Ground.data},{on:=2,ground:=Ground.data}],guard:=none},{dst:=none,op:=Op.store 101 (Operand.tmp 3) (Operand.tmp 11),type:=0,pos:= "mask.go:58",after:= #[{on:=3,ground:=Ground.data},{on:=3,ground:=Ground.chain},{on:=0,ground:=Ground.phase},{on:=1,ground:=Ground.phase},{on:=2,ground:=Ground.phase},{on:=3,ground:=Ground.phase}],guard:=none}] false))
def iF (fn:FuncId) (s0:Int) (fv:Value) (Bo D:Nat) (st:LoopState) (pend:Option Code):Loop:=
 {state:=st,pending:=pend,fn,tmps:= #[.int .u32 s0,undef,.slice none 0 0,.pointer (some ⟨Bo,0,none⟩),undef,.int .u32 s0,fv,undef,undef,undef,undef,undef,undef],params:= #[7],assign:=Fo,body:=Fp,defers:=D}
def fh (x:Nat):Value:= .int .i64 (x:Int)
structure LsAt (w0:World) (fn:FuncId) (s0:Int) (fv:Value) (Bo l D:Nat) (ss:List Nat) (W:World):Prop where
 box: ∃v,W.heap[Bo]? =some (.cells #[v] 101 (0,0))∧W.ownsRow w0.heap.size 3 1 v ss.length (ss.map fh)
 L:W.heap[l]? =some (.loop (iF fn s0 fv Bo D .ready none))
 K:W.heap[D]? =some (.deferred (some []))
 below:Below w0.heap.size w0 W
theorem rk (W:World) (l:Nat) (o:Obj):W.grownBy (W.putObj l o) (some l):=
 ⟨rfl,rfl,rfl,by simp,fun k _ hk=>World.putObj_heap_other (fun e=>hk (by rw [e]))⟩
theorem Hj (W:World) (b:Nat) (v:Value):W.grownBy (W.setCell ⟨b,0,none⟩ v) (some b):=
 ⟨rfl,rfl,rfl,(KeepsWalks.setCell W _ v).size,fun k _ hk=>Below.heap_setCell _ _ _ k (fun e=>hk (by rw [e]))⟩
theorem mr {W:World} {base:Nat} {e:TypeId} {size:Nat} {v:Value} {k:Nat} {xs:List Value} (h:W.ownsRow base e size v k xs) {j:Nat} {o:Obj} (hj:W.heap[j]? =some o) (hno: ∀cur,o≠ .cells cur e (0,0)):
  v.ownBlock=none∨v.ownBlock≠some j:=by
 rcases h.2 with ⟨rfl,_⟩|⟨g,cap,cur,rfl,_,hgb,_⟩
 ·exact .inl rfl
 ·refine .inr fun e'=> ?_
  have:g=j:=by simpa [Value.ownBlock] using e'
  subst this;rw [hgb] at hj;cases hj;exact hno cur rfl
theorem m6 {W:World} {B:Nat} {v:Value} {t:TypeId} (h:W.heap[B]? =some (.cells #[v] t (0,0))):W.cell? ⟨B,0,none⟩=some v∧W.frozen? ⟨B,0,none⟩=false:=by
 constructor<;>simp [World.cell?,World.frozen?,h]
theorem Dm {W:World} {B:Nat} {v:Value} {t:TypeId} (v':Value) (h:W.heap[B]? =some (.cells #[v] t (0,0))):(W.setCell ⟨B,0,none⟩ v').heap[B]? =some (.cells #[v'] t (0,0)):=by
 obtain ⟨hlt,hk⟩:=Array.getElem?_eq_some_iff.1 h
 show (W.heap.modify B _)[B]? =_
 rw [Array.getElem?_eq_getElem (by rw [Array.size_modify];exact hlt),Array.getElem_modify_self,hk]
 rfl
theorem adk:(Tryz.prog.info? 3).map (fun i=>(i.zero,i.size,i.bytes))=some (some (.int .i64 0),1,8):=by kernel_rfl
set_option maxRecDepth 100000 in
set_option maxHeartbeats 2000000 in
theorem agB (F:Fence) (m:Nat) (w0:World) (fn:FuncId) (hfn:F.fn fn) (s0:Int) (fv:Value) (Bo Bi l D:Nat) (hBl:Bo≠l) (hDl:D≠l) (hDB:D≠Bo) (hBiBo:Bi≠Bo) (hBil:Bi≠l) (h0B:w0.heap.size≤Bo) (h0l:w0.heap.size≤l)
  (ss:List Nat) (x:Nat) (c:Value) (W:World) (h:LsAt w0 fn s0 fv Bo l D ss W) (hi0:W.heap[Bi]? =some (.cells #[c] 44 (0,0))) (hlen:ss.length<24):
  YieldAt F m Tryz.prog l #[fh x] W fun e W'=>e= .returned (.bool true)∧LsAt w0 fn s0 fv Bo l D (ss++[x]) W'∧W'.heap[Bi]? =some (.cells #[c] 44 (0,0)):=by
 obtain ⟨i0,hi,hz0,hz1,hz2⟩:=info_parts adk
 obtain ⟨v,hv,hrow⟩:=h.box
 refine ⟨fn,#[.int .u32 s0,undef,.slice none 0 0,.pointer (some ⟨Bo,0,none⟩),undef,.int .u32 s0,fv,.int .i64 (x:Int),undef,undef,undef,undef,undef],Fo,Fp,by simpa [iF,fh] using run_yield (P:=Tryz.prog) (args:= #[fh x]) h.L rfl,roundIn_of_wpIn hfn ?_⟩
 have hl:l<W.heap.size:=(Array.getElem?_eq_some_iff.1 h.L).1
 have hbr:=run_beginRound (P:=Tryz.prog) h.L rfl
 obtain ⟨W2,hW2⟩: ∃W2,W.putObj l (.loop {iF fn s0 fv Bo D .ready none with state:= .busy})=W2:=⟨_,rfl⟩
 rw [hW2] at hbr
 have hg2:W.grownBy W2 (some l):=by rw [←hW2];exact rk _ _ _
 have hv2:W2.heap[Bo]? =some (.cells #[v] 101 (0,0)):=by rw [←hW2];exact (World.putObj_heap_other hBl).trans hv
 have hi2:W2.heap[Bi]? =some (.cells #[c] 44 (0,0)):=by rw [←hW2];exact (World.putObj_heap_other hBil).trans hi0
 have hK2:W2.heap[D]? =some (.deferred (some [])):=by rw [←hW2];exact (World.putObj_heap_other hDl).trans h.K
 have hL2:W2.heap[l]? =some (.loop {iF fn s0 fv Bo D .ready none with state:= .busy}):=by rw [←hW2];exact World.putObj_heap_same hl
 have hrow2:W2.ownsRow w0.heap.size 3 1 v ss.length (ss.map fh):=hrow.kept hg2 (mr hrow h.L (fun cur e=>by cases e))
 have hb2:Below w0.heap.size w0 W2:=h.below.grown hg2 h.below.size (fun k e=>by cases e;exact h0l)
 obtain ⟨hc2,hf2⟩:=m6 hv2
 have hBlt:Bo<W2.heap.size:=(Array.getElem?_eq_some_iff.1 hv2).1
 have hBilt:Bi<W2.heap.size:=(Array.getElem?_eq_some_iff.1 hi2).1
 have hl2:l<W2.heap.size:=(Array.getElem?_eq_some_iff.1 hL2).1
 have hDlt:D<W2.heap.size:=(Array.getElem?_eq_some_iff.1 hK2).1
 have ne_of: ∀ {j:Nat} {o:Obj},W2.heap[j]? =some o→(∀cur,o≠ .cells cur 3 (0,0))→some j≠v.ownBlock:=fun hj hno=>by
  rcases mr hrow2 hj hno with e|e
  ·rw [e];simp
  ·exact fun e'=>e e'.symm
 clear hW2
 have hml:24≤maxLen:=by unfold maxLen;omega
 unfold Fo
 gi_wp2_with (rw [Oper.semAt_eq _ _ _ (fun c h=>by cases h)];go_simp;try go_bits)
 unfold Fp
 gi_wp2_with (first
  |(gi_at_builtin;refine wpListIn_append_own _ rfl _ _ 101 rfl w0.heap.size 3 i0 (.int .i64 0) 1 8 Tryz.underlying101 hi hz0 hz1 hz2 rfl (by decide) _ _ _ rfl (hrow2.alloc _) ⟨W2.heap.size,0,none⟩ 1 1 [fh x] rfl rfl (cell_one_new _ _ _) (by simp [Value.oneCell',fh]) (by omega) (by omega) (by have:=hb2.size;simp;omega) ?_;intro v' w3 hown' hg3 hnil3
    have hv3:w3.heap[Bo]? =some (.cells #[v] 101 (0,0)):=(hg3.block Bo (by simp;omega) (ne_of hv2 (fun cur e=>by cases e))).trans ((Below.heap_alloc _ _ Bo hBlt).trans hv2)
    obtain ⟨hc3,hf3⟩:=m6 hv3
    obtain ⟨g',cap',cur',rfl,hbase',hgb',hr1,hr2,hr3,hr4⟩: ∃g' cap' cur',v'= .slice (some ⟨g',0,none⟩) (ss.length+1) cap'∧w0.heap.size≤g'∧w3.heap[g']? =some (.cells cur' 3 (0,0))∧ss.length+1≤cap'∧cap'≤maxLen∧cur'.size=cap'*1∧cur'.toList.take ((ss.length+1)*1)=ss.map fh++[fh x]:=by
     rcases hown'.2 with ⟨_,h0⟩|h'
     ·exact absurd h0 (by omega)
     ·exact h'
    go_frame)
  |(rw [Oper.semAt_eq _ _ _ (fun c h=>by cases h)];go_simp;try go_bits))
 have hg3':(W2.alloc (.cells #[fh x] 3)).grownBy w3 v.ownBlock:=hg3
 have hL3:w3.heap[l]? =some (.loop {iF fn s0 fv Bo D .ready none with state:= .busy}):=(hg3'.block l (by simp;omega) (ne_of hL2 (fun cur e=>by cases e))).trans ((Below.heap_alloc _ _ l hl2).trans hL2)
 have hK3:w3.heap[D]? =some (.deferred (some [])):=(hg3'.block D (by simp;omega) (ne_of hK2 (fun cur e=>by cases e))).trans ((Below.heap_alloc _ _ D hDlt).trans hK2)
 have hi3:w3.heap[Bi]? =some (.cells #[c] 44 (0,0)):=(hg3'.block Bi (by simp;omega) (ne_of hi2 (fun cur e=>by cases e))).trans ((Below.heap_alloc _ _ Bi hBilt).trans hi2)
 obtain ⟨w4,hw4⟩: ∃w4,w3.setCell ⟨Bo,0,none⟩ (.slice (some ⟨g',0,none⟩) (ss.length+1) cap')=w4:=⟨_,rfl⟩
 rw [hw4]
 have hg4:w3.grownBy w4 (some Bo):=by rw [←hw4];exact Hj _ _ _
 have hv4:w4.heap[Bo]? =some (.cells #[.slice (some ⟨g',0,none⟩) (ss.length+1) cap'] 101 (0,0)):=by rw [←hw4];exact Dm _ hv3
 have hL4:w4.heap[l]? =some (.loop {iF fn s0 fv Bo D .ready none with state:= .busy}):=(hg4.block l (Array.getElem?_eq_some_iff.1 hL3).1 (fun e=>hBl (by cases e;rfl))).trans hL3
 have hK4:w4.heap[D]? =some (.deferred (some [])):=(hg4.block D (Array.getElem?_eq_some_iff.1 hK3).1 (fun e=>hDB (by cases e;rfl))).trans hK3
 have hi4:w4.heap[Bi]? =some (.cells #[c] 44 (0,0)):=(hg4.block Bi (Array.getElem?_eq_some_iff.1 hi3).1 (fun e=>hBiBo (by cases e;rfl))).trans hi3
 have hrow4:=hown'.kept hg4 (mr hown' hv3 (fun cur e=>by cases e))
 have hl4:l<w4.heap.size:=(Array.getElem?_eq_some_iff.1 hL4).1
 have hb3:Below w0.heap.size w0 w3:=(hb2.alloc hb2.size _).grown hg3' (by have:=hb2.size;simp;omega) (fun k e=>(hrow2.lt k e).1)
 have hb4:Below w0.heap.size w0 w4:=hb3.grown hg4 hb3.size (fun k e=>by cases e;exact h0B)
 clear hw4
 refine ⟨_,_,run_endRound none hL4,rfl,⟨⟨_,(World.putObj_heap_other hBl).trans hv4, ?_⟩,World.putObj_heap_same hl4,(World.putObj_heap_other hDl).trans hK4,hb4.grown (rk _ _ _) hb4.size (fun k e=>by cases e;exact h0l)⟩,(World.putObj_heap_other hBil).trans hi4⟩
 have:=hrow4.kept (rk w4 l (.loop {{iF fn s0 fv Bo D .ready none with state:= .busy} with state:=if (none:Option Code).isNone then .ready else .done,pending:=none})) (mr hrow4 hL4 (fun cur e=>by cases e))
 simpa using this
def Ff (Bi:Nat) (w:World):Nat:=match w.cell? ⟨Bi,0,none⟩ with
 |some v=>(intOf v).toNat
 |none=>0
theorem LI {Bi:Nat} {w:World} {n:Nat} {t:TypeId} (h:w.heap[Bi]? =some (.cells #[.int .u32 (n:Int)] t (0,0))):Ff Bi w=n:=by
 unfold Ff;rw [(m6 h).1];simp [intOf]
theorem Zq {w0 W:World} (hT:TabAt 0 Lib.deBruijn32tab w0) (hb:Below w0.heap.size w0 W):TabAt 0 Lib.deBruijn32tab W:=fun j hj=>by
 have h:=hT j hj
 have h0:0<w0.heap.size:=World.block_lt_of_cell? w0 ⟨0,j,none⟩ h
 exact (hb.cell (p:=⟨0,j,none⟩) h0).trans h
theorem ZD (s:Int):bits .and .u32 s 16777215=(((BitVec.ofInt 32 s).toNat&&&16777215:Nat):Int):=by
 have hx:(BitVec.ofInt 32 s).toNat&&&16777215<2^32:=Nat.and_lt_two_pow _ (by omega)
 show IntKind.u32.wrap ((BitVec.ofInt 32 s&&&BitVec.ofInt 32 16777215).toNat:Int)=_
 rw [BitVec.toNat_and,wrap_u32',show (BitVec.ofInt 32 16777215).toNat=16777215 from by decide]
 omega
def iE (s:Int):Nat:=(BitVec.ofInt 32 s).toNat&&&16777215
theorem ZE (s:Nat) (h0:s≠0) (h:s<4294967296):bits .and .u32 (s:Int) ((s:Int)-1)=((s&&&(s-1):Nat):Int):=by
 have:(s:Int)-1=((s-1:Nat):Int):=by omega
 rw [this];exact bits_and_u32_nat s (s-1) h (by omega)
set_option maxRecDepth 100000 in
set_option maxHeartbeats 2000000 in
theorem agA (F:Fence) (n:Nat) (h322:F.fn 322) (h323:F.fn 323) (hro:F.round=none) (hn:1≤n) (w0:World) (fn:FuncId) (hfn:F.fn fn) (s0:Int) (fv:Value) (Bo Bi l D:Nat) (hBl:Bo≠l) (hDl:D≠l) (hDB:D≠Bo) (hBiBo:Bi≠Bo) (hBil:Bi≠l) (hBiD:Bi≠D)
  (h0B:w0.heap.size≤Bo) (h0l:w0.heap.size≤l) (h0i:w0.heap.size≤Bi) (hT:TabAt 0 Lib.deBruijn32tab w0) (s:Int) (W:World) (h:LsAt w0 fn s0 fv Bo l D [] W) (hi0:W.heap[Bi]? =some (.cells #[.int .u32 s] 44 (0,0)))
  (htz: ∀ (x:Nat),x<4294967296→x≠0→ ∀W',TabAt 0 Lib.deBruijn32tab W'→CallsIn F (n-1) Tryz.prog 323 #[.int .u32 x] W' fun e w'=>e= .returned (.int .i64 (Lib.ctz 32 x))∧w'=W'):
  CallsIn F n Tryz.prog 322 #[.func (.yield l) #[] #[],.pointer (some ⟨Bi,0,none⟩)] W fun e W'=>(∃v,e= .returned v)∧LsAt w0 fn s0 fv Bo l D (eL (iE s)) W':=by
 obtain ⟨hc0,hf0⟩:=m6 hi0
 have ha:bits .and .u32 s 16777215=((iE s:Nat):Int):=ZD s
 have hsl:iE s<16777216:=Nat.lt_of_le_of_lt Nat.and_le_right (by decide)
 generalize iE s=q at ha hsl ⊢
 refine callsIn_of_wp Tryz.func322 rfl h322 ?_ hro
 simp only [Tryz.ntmps322,List.size_toArray,List.length_cons,List.length_nil,Nat.reduceAdd,Nat.reduceSub,Array.replicate_succ,Array.replicate_zero,List.push_toArray,List.append_toArray,List.nil_append,List.cons_append]
 gi_wp2
 have hi1:=Dm (.int .u32 (q:Int)) hi0
 have hA1:LsAt w0 fn s0 fv Bo l D [] (W.setCell ⟨Bi,0,none⟩ (.int .u32 (q:Int))):=by
  obtain ⟨v,hv,hrow⟩:=h.box
  exact ⟨⟨v,(Below.heap_setCell _ _ _ Bo (fun e=>hBiBo e.symm)).trans hv,hrow.kept (Hj _ _ _) (mr hrow hi0 (fun cur e=>by cases e))⟩,(Below.heap_setCell _ _ _ l (fun e=>hBil e.symm)).trans h.L,(Below.heap_setCell _ _ _ D (fun e=>hBiD e.symm)).trans h.K,h.below.setCell h0i _⟩
 gi_loopw [] (fun wr=> ∃ (pre:List Nat) (c:Nat),c<16777216∧pre++eL c=eL q∧LsAt w0 fn s0 fv Bo l D pre wr∧wr.heap[Bi]? =some (.cells #[.int .u32 (c:Int)] 44 (0,0)))
  (fun wr=>Ff Bi wr)
 case atStart=>exact ⟨[],q,hsl,rfl,hA1,hi1⟩
 case round=>
  obtain ⟨pre,c,hc,hp,hA,hb⟩:=hrel
  clear hc0 hf0 ha hi1 hA1
  obtain ⟨hc1,hf1⟩:=m6 hb
  by_cases hz:c=0
  ·subst hz
   rw [akZ,List.append_nil] at hp
   gi_wp2
   go_end0
   exact ⟨⟨_,rfl⟩,hp▸hA⟩
  ·have hne:((c:Int)==0)=false:=by simp;omega
   have hne': ¬ ((c:Int)=0):=by omega
   have hstep:=ak1 c hz hc
   have hpl:pre.length<24:=by
    have h1:=ak0 q
    have h2:=congrArg List.length hp
    rw [hstep.1,List.length_append,List.length_cons] at h2
    omega
   obtain ⟨fn',tmps,assign,body,hy,hR⟩:=agB F (n-1) w0 fn hfn s0 fv Bo Bi l D hBl hDl hDB hBiBo hBil h0B h0l pre (Lib.ctz 32 c) (.int .u32 (c:Int)) wr hA hb hpl
   have hT1:=Zq hT hA.below
   have hap:=ZE c hz (by omega)
   unfold fh at hy
   have hyH:Hid (Lib.ctz 32 c=Lib.ctz 32 c):=rfl
   gi_wp2_with (gi_at_call 323;refine (htz c (by omega) hz _ hT1).mono ?_;rintro e w' ⟨rfl,rfl⟩)
   refine hR.mono ?_
   rintro e W3 ⟨rfl,hA3,hb3⟩
   obtain ⟨hc3,hf3⟩:=m6 hb3
   clear hc1 hf1 hA hy hR hT1
   gi_wp2
   have hb4:=Dm (.int .u32 ((c&&&(c-1):Nat):Int)) hb3
   have hlt:=hstep.2
   go_roundw
   case rel=>
    refine ⟨pre++[Lib.ctz 32 c],c&&&(c-1),by omega, ?_, ?_,hb4⟩
    ·rw [←hp,hstep.1,List.append_assoc];rfl
    ·obtain ⟨v,hv,hrow⟩:=hA3.box
     exact ⟨⟨v,(Below.heap_setCell _ _ _ Bo (fun e=>hBiBo e.symm)).trans hv,hrow.kept (Hj _ _ _) (mr hrow hb3 (fun cur e=>by cases e))⟩,(Below.heap_setCell _ _ _ l (fun e=>hBil e.symm)).trans hA3.L,(Below.heap_setCell _ _ _ D (fun e=>hBiD e.symm)).trans hA3.K,hA3.below.setCell h0i _⟩
   case measure=>rw [LI hb4,LI hb];exact hlt
set_option maxRecDepth 100000 in
set_option maxHeartbeats 2000000 in
theorem agy (F:Fence) (n:Nat) (h313:F.fn 313) (h319:F.fn 319) (h322:F.fn 322) (h323:F.fn 323) (hro:F.round=none) (hn:3≤n) (s:Int) (w:World) (hT:TabAt 0 Lib.deBruijn32tab w)
  (hin: ∀W,CallsIn F (n-1) Tryz.prog 319 #[.int .u32 s] W fun e w'=>e= .returned (.func (.func 322) #[] #[.pointer (some ⟨W.heap.size,0,none⟩)])∧w'=W.alloc (.cells #[.int .u32 s] 44))
  (htz: ∀ (x:Nat),x<4294967296→x≠0→ ∀W',TabAt 0 Lib.deBruijn32tab W'→CallsIn F (n-1-1) Tryz.prog 323 #[.int .u32 x] W' fun e w'=>e= .returned (.int .i64 (Lib.ctz 32 x))∧w'=W'):
  CallsIn F n Tryz.prog 313 #[.int .u32 s] w fun e w'=> ∃v:Value,e= .returned v∧w'.ownsRow w.heap.size 3 1 v (eL (iE s)).length ((eL (iE s)).map fh)∧Below w.heap.size w w':=by
 have h1:1≤n:=by omega
 have eg: ∀args w,(callFunc 322 args).run Tryz.prog w= .ok (.enter 322 args) w:=enters_of Tryz.func322 (by kernel_rfl) rfl
 refine callsIn_of_wp_marks Tryz.func313 rfl h313 ?_ hro
 simp only [Tryz.ntmps313,List.size_toArray,List.length_cons,List.length_nil,Nat.reduceAdd,Nat.reduceSub,Array.replicate_succ,Array.replicate_zero,List.push_toArray,List.append_toArray,List.nil_append,List.cons_append]
 gi_wp2_with (gi_at_call 319;refine (hin _).mono ?_;rintro e w' ⟨rfl,rfl⟩)
 refine wpIn_rangeFunc ?_
 intro fn hfn
 rw [hro]
 obtain ⟨fv,hfv⟩: ∃fv:Value,fv= .func (.func 322) #[] #[.pointer (some ⟨w.heap.size+1,0,none⟩)]:=⟨_,rfl⟩
 obtain ⟨W0,hW0⟩: ∃W0,(w.alloc (.cells #[.slice none 0 0] 101)).alloc (.cells #[.int .u32 s] 44)=W0:=⟨_,rfl⟩
 have hs0:W0.heap.size=w.heap.size+2:=by rw [←hW0];simp
 have hv0:W0.heap[w.heap.size]? =some (.cells #[.slice none 0 0] 101 (0,0)):=by rw [←hW0];exact (Below.heap_alloc _ _ _ (by simp)).trans (World.alloc_heap_new w _)
 have hi0:W0.heap[w.heap.size+1]? =some (.cells #[.int .u32 s] 44 (0,0)):=by
  rw [←hW0];have:=World.alloc_heap_new (w.alloc (.cells #[.slice none 0 0] 101)) (.cells #[.int .u32 s] 44);rwa [World.size_alloc] at this
 have hb0:Below w.heap.size w W0:=by rw [←hW0];exact ((Below.refl _ w).alloc (Nat.le_refl _) _).alloc (by simp) _
 rw [hW0]
 obtain ⟨W1,hW1⟩: ∃W1,(W0.alloc (.deferred (some []))).alloc (.loop (iF fn s fv w.heap.size W0.heap.size .ready none))=W1:=⟨_,rfl⟩
 have hold: ∀k,k<W0.heap.size→W1.heap[k]? =W0.heap[k]? :=fun k hk=>by
  rw [←hW1];exact (Below.heap_alloc _ _ k (by simp;omega)).trans (Below.heap_alloc _ _ k hk)
 have hb1:Below w.heap.size w W1:=by rw [←hW1];exact (hb0.alloc hb0.size _).alloc (by have:=hb0.size;simp;omega) _
 have hM:LsAt w fn s fv w.heap.size (W0.heap.size+1) W0.heap.size [] W1:=
  ⟨⟨_,(hold w.heap.size (by omega)).trans hv0,⟨rfl,.inl ⟨rfl,rfl⟩⟩⟩,
   by rw [←hW1];have:=World.alloc_heap_new (W0.alloc (.deferred (some []))) (.loop (iF fn s fv w.heap.size W0.heap.size .ready none));rwa [World.size_alloc] at this,
   by rw [←hW1];exact (Below.heap_alloc _ _ _ (by simp)).trans (World.alloc_heap_new W0 _),hb1⟩
 refine ⟨W0.heap.size+1,[{target:= .collected W0.heap.size,args:= #[]}],W1,{target:= .fn (.func 322) #[.pointer (some ⟨w.heap.size+1,0,none⟩)],args:= #[.func (.yield (W0.heap.size+1)) #[] #[]]},W1,322,
  #[.func (.yield (W0.heap.size + 1)) #[] #[]] ++ #[.pointer (some ⟨w.heap.size + 1, 0, none⟩)], W1, ?_, ?_, ?_, ?_, fun _ => h1, ?_⟩
 ·rw [←hW1,hfv];exact run_enterLoop_outer _ _ _ _ _
 ·simp [resolve,go_sem]
 ·intro f' hf';simp [Target.leads] at hf';subst hf';exact h322
 ·simp [invoke,go_sem,eg]
 ·refine (agA F (n-1) h322 h323 hro (by omega) w fn hfn s fv w.heap.size (w.heap.size+1) (W0.heap.size+1) W0.heap.size (by omega) (by omega) (by omega) (by omega) (by omega) (by omega) (Nat.le_refl _) (by omega) (by omega) hT s W1 hM ((hold _ (by omega)).trans hi0) htz).mono ?_
  rintro e W2 ⟨⟨v0,rfl⟩,h2⟩
  obtain ⟨v,hv,hrow⟩:=h2.box
  have hend:=run_endLoop (P:=Tryz.prog) h2.L (by simp [iF])
  obtain ⟨W3,hW3⟩: ∃W3,W2.putObj (W0.heap.size+1) (.loop {iF fn s fv w.heap.size W0.heap.size .ready none with state:= .exhausted})=W3:=⟨_,rfl⟩
  rw [hW3] at hend
  have hg3:W2.grownBy W3 (some (W0.heap.size+1)):=by rw [←hW3];exact rk _ _ _
  have hv3:W3.heap[w.heap.size]? =some (.cells #[v] 101 (0,0)):=by rw [←hW3];exact (World.putObj_heap_other (by omega)).trans hv
  have hK3:W3.heap[W0.heap.size]? =some (.deferred (some [])):=by rw [←hW3];exact (World.putObj_heap_other (by omega)).trans h2.K
  have hrow3:=hrow.kept hg3 (mr hrow h2.L (fun cur e=>by cases e))
  have hb3:Below w.heap.size w W3:=h2.below.grown hg3 h2.below.size (fun k e=>by cases e;omega)
  obtain ⟨hc3,hf3⟩:=m6 hv3
  clear hW3
  refine ⟨none,W3,hend, ?_⟩
  clear hfv
  gi_wp2
  rw [show (w.heap.size+1+1)=W0.heap.size by omega]
  refine ⟨by simp,.inl ⟨_,_,rfl,run_takeDeferred hK3, ?_⟩⟩
  exact ⟨_,results_tmp rfl _ _ _,v,rfl,hrow3.kept (rk _ _ _) (mr hrow3 hK3 (fun cur e=>by cases e)),hb3.grown (rk _ _ _) hb3.size (fun k e=>by cases e;omega)⟩
end Go.Proofs.YtfkkpkhfjpaafaaGreatDoor
namespace Go.Proofs.YtfkkpkhfjpaafaaGreatDoor
open Go PI Go.Shelf Go.RowKit
set_option linter.unusedVariables false
set_option linter.unusedSimpArgs false
set_option maxRecDepth 100000
def ai (o:Obj):Prop:= ∃ (cur:Array Value) (e:TypeId) (fr:Nat×Nat),o= .cells cur e fr∧ ∀j,j<Lib.deBruijn32tab.length→cur[j]? =some (.int .u8 (Lib.deBruijn32tab.getD j 0))
theorem akJ {o:Obj} (ho:ai o) {w:World} (h:w.heap[0]? =some o):TabAt 0 Lib.deBruijn32tab w:=fun j hj=>by
 obtain ⟨cur,e,fr,rfl,hc⟩:=ho
 have:=hc j hj
 simp [World.cell?,h,this]
theorem agx (s:Int) (w:World) (hT:TabAt 0 Lib.deBruijn32tab w):Calls Tryz.prog 313 #[.int .u32 s] w fun e w'=> ∃v:Value,e= .returned v∧w'.ownsRow w.heap.size 3 1 v (eL (iE s)).length ((eL (iE s)).map fh)∧Below w.heap.size w w':=
 callsIn_wide.1 (agy Fence.wide 5 trivial trivial trivial trivial rfl (by omega) s w hT (fun W=>callsIn_wide.2 (adi s W)) fun x hx h0 W' hT'=>callsIn_wide.2 (Tryz.tz32 x hx h0 W' hT'))
theorem agE (s:Int):ra s=(eL (iE s)).map fun n:Nat=>(n:Int):=by
 unfold ra eL iE
 have:(List.range 24).filter ((BitVec.ofInt 32 s).toNat&&&16777215).testBit=(List.range 24).filter fun i=>(BitVec.ofInt 32 s).getLsbD i:=List.filter_congr fun i hi=>by
  have hi:i<24:=List.mem_range.1 hi
  have h24:(16777215:Nat)=2^24-1:=by decide
  rw [Nat.testBit_and,h24,Nat.testBit_two_pow_sub_one,decide_eq_true hi,Bool.and_true];rfl
 rw [this];rfl
theorem ZJ {X:Link VV Tryz.prog} {w w':World} {vs:Array Value} {N0:aN} {ν:Nat→Nat} {δ:Nat→Option Nat} {args:List PU} (hg:Given X w vs N0 ν δ args []) (hb:Below w.heap.size w w'):
  Back X w w' N0 ν δ 0 args.length ν (fun _=>none) [] where
 ext:=⟨hb.os,hb.tape,hb.output,hb.size,fun b hlt _=>hb.block b hlt⟩
 le:=Nat.le_refl _
 old:=fun i h=>absurd h (Nat.not_lt_zero i)
 new:=fun i _ h=>absurd h (Nat.not_lt_zero i)
 dnew:=fun j b h=>by cases h
 bnd:={
  inj:=fun i j h=>absurd h (Nat.not_lt_zero i)
  lt:=fun i h=>absurd h (Nat.not_lt_zero i)
  dlt:=fun j b h=>by cases h
  dinj:=fun i j b h=>by cases h
  dν:=fun j b h=>by cases h
  n0:=fun b o h=>⟨Nat.lt_of_lt_of_le (hg.bnd.n0 b o h).1 hb.size,fun i h=>absurd h (Nat.not_lt_zero i),fun j h=>by cases h⟩}
 boxes:=fun k b h=>by simp at h
theorem akR {S:Type} (o:Obj) (ho:ai o) (vs:List PU) (bs:List (Box UU)) (κ:Out UU→Option S) (x:S) (h:GZ vs bs κ=some x): ∃out,ci (LL o) acN vs bs out∧κ out=some x:=by
 unfold GZ at h
 split at h
 case h_2=>cases h
 rename_i κ y
 refine ⟨_, ?_,h⟩
 refine ⟨⟨Tryz.f313,Tryz.func313,by kernel_rfl,rfl⟩,fun w vs N0 ν δ hg=> ?_⟩
 have hs:vs.size=1:=hg.size
 have h0:=hg.args 0 _ rfl
 obtain ⟨v0,hv0⟩: ∃v0,vs= #[v0]:=by
  obtain ⟨l⟩:=vs
  match l,hs with
  |[v],_=>exact ⟨v,rfl⟩
 subst hv0
 have h0:Rep (LL o) w _ _ v0 (.int .u32 y):=h0
 cases h0
 have hT:=akJ ho (hg.glob 0 o (by simp [LL])).1
 refine (agx y w hT).mono ?_
 rintro e w' ⟨v,rfl,hrow,hb⟩
 refine ⟨ν,fun _=>none,ZJ hg hb, ?_⟩
 show Rep (LL o) w' _ _ v (.sl ET.I (ra y) .none)
 rw [agE]
 generalize eL (iE y)=ts at hrow
 obtain ⟨hl,hr⟩:=hrow
 rcases hr with ⟨rfl,hn⟩|⟨g,cap,cur,rfl,hg0,hgb,hc,hc',hsz,htk⟩
 ·have:ts=[]:=List.length_eq_zero_iff.1 hn
  subst this
  exact .sl none 0 0 _ _ _ (fun _ _=>undef) rfl (Nat.le_refl _) trivial (fun j x hx=>by cases hx) (fun j x hx=>by cases hx)
 ·have hcell: ∀j x,(ts.map fun n:Nat=>(n:Int))[j]? =some x→cur.getD j undef= .int .i64 x∧w'.cell? ⟨g,j,none⟩=some (.int .i64 x):=by
   intro j x hx
   rw [List.getElem?_map] at hx
   cases ht:ts[j]? with
   |none=>rw [ht] at hx;cases hx
   |some n=>
    rw [ht] at hx
    injection hx with hx
    have hj:j<ts.length:=(List.getElem?_eq_some_iff.1 ht).1
    have h1:(cur.toList.take (ts.length*1))[j]? =some (fh n):=by rw [htk,List.getElem?_map,ht];rfl
    rw [List.getElem?_take_of_lt (by omega)] at h1
    have h2:cur[j]? =some (.int .i64 x):=by rw [←Array.getElem?_toList,h1,←hx];rfl
    refine ⟨?_,by simp [World.cell?,hgb,h2]⟩
    rw [Array.getD_eq_getD_getElem?,h2];rfl
  refine Rep.sl (X:=LL o) (some ⟨g,0,none⟩) ts.length cap ET.I (show List Int from ts.map fun n:Nat=>(n:Int)) .none (fun j k=>cur.getD (j+k) undef) (List.length_map _) hc trivial (fun j x hx k p hp=> ?_) (fun j x hx k p hp=> ?_)
  ·match k,hp with
   |0,hp=>
    obtain ⟨h1,h2⟩:=hcell j x hx
    refine ⟨_,rfl, ?_, ?_⟩
    ·have:(⟨g,0,none⟩:Addr).add (j*(LL o).esize ET.I+0)=⟨g,j,none⟩:=by
      rw [Addr.add_lit'];show (⟨g,0+(j*1+0),none⟩:Addr)=_;congr 1;omega
     rw [this,h2];rw [Nat.add_zero,h1]
    ·rintro (hN|⟨i,hi,_⟩|⟨i,hi⟩)
     ·have:=(hg.bnd.n0 _ _ hN).1
      simp at this;omega
     ·exact absurd hi (Nat.not_lt_zero i)
     ·cases hi
   |k+1,hp=>simp [VV,d6] at hp
  ·match k,hp with
   |0,hp=>
    obtain ⟨h1,h2⟩:=hcell j x hx
    rw [Nat.add_zero,h1]
    have:p= .int .i64 x:=by simpa [VV,d6] using hp.symm
    subst this
    exact .int _ _
   |k+1,hp=>simp [VV,d6] at hp
end Go.Proofs.YtfkkpkhfjpaafaaGreatDoor
namespace Go.Proofs.YtfkkpkhfjpaafaaGreatDoor
open Go PI Go.Shelf Go.RowKit Go.Sort
set_option linter.unusedVariables false
set_option linter.unusedSimpArgs false
set_option maxRecDepth 100000
def m7 (a b:Int):Int:=if a<b then-1 else if b<a then 1 else 0
def iY (x y:Cl):Int:=if x.pos=y.pos then m7 x.neg y.neg else m7 x.pos y.pos
def eF (x:Cl):List Value:=[.int .u32 x.pos,.int .u32 x.neg]
theorem EP (a:Int) (W:World):Calls Tryz.prog 280 #[.int .u32 a] W fun e w'=>e= .returned (.bool false)∧w'=W:=by
 go_enter Tryz.func280,Tryz.ntmps280
 go_wp2
 go_ret
 exact ⟨by simp,rfl⟩
set_option maxHeartbeats 1000000 in
theorem JD (a b:Int) (W:World):Calls Tryz.prog 234 #[.int .u32 a,.int .u32 b] W fun e w'=>e= .returned (.int .i64 (m7 a b))∧w'=W:=by
 unfold m7
 by_cases h1:a<b
 ·rw [if_pos h1]
  go_enter Tryz.func234,Tryz.ntmps234
  go_wp2_with (go_at_call 280;refine (EP _ _).mono ?_;rintro e w' ⟨rfl,rfl⟩)
  go_ret
  exact ⟨rfl,rfl⟩
 ·rw [if_neg h1]
  by_cases h2:b<a
  ·rw [if_pos h2]
   go_enter Tryz.func234,Tryz.ntmps234
   go_wp2_with (go_at_call 280;refine (EP _ _).mono ?_;rintro e w' ⟨rfl,rfl⟩)
   go_ret
   exact ⟨rfl,rfl⟩
  ·rw [if_neg h2]
   go_enter Tryz.func234,Tryz.ntmps234
   go_wp2_with (go_at_call 280;refine (EP _ _).mono ?_;rintro e w' ⟨rfl,rfl⟩)
   go_ret
   exact ⟨rfl,rfl⟩
set_option maxHeartbeats 1000000 in
theorem Z6 (x y:Cl) (W:World):Calls Tryz.prog 171 #[.agg (eF x).toArray,.agg (eF y).toArray] W fun e w'=>e= .returned (.int .i64 (iY x y))∧ ∃q os',w'=grow (W.drewN q) os':=by
 obtain ⟨a,b⟩:=x
 obtain ⟨a',b'⟩:=y
 have h1:=JD a a'
 have h2:=JD b b'
 unfold iY
 simp only [eF]
 generalize m7 a a'=r1 at h1 ⊢
 generalize m7 b b'=r2 at h2 ⊢
 by_cases h:a=a'
 ·rw [if_pos h]
  go_enter Tryz.func171,Tryz.ntmps171
  go_wp2_with (go_at_call 234;refine (h2 _).mono ?_;rintro e w' ⟨rfl,rfl⟩)
  go_ret
  exact ⟨rfl,0,_,by rw [alloc_eq_grow,alloc_eq_grow,grow_grow];rfl⟩
 ·rw [if_neg h]
  go_enter Tryz.func171,Tryz.ntmps171
  go_wp2_with (go_at_call 234;refine (h1 _).mono ?_;rintro e w' ⟨rfl,rfl⟩)
  go_ret
  exact ⟨rfl,0,_,by rw [alloc_eq_grow,alloc_eq_grow,grow_grow];rfl⟩
theorem uS (x y:Cl):ltOf iY x y=(decide (x.pos<y.pos)||(decide (x.pos=y.pos)&&decide (x.neg<y.neg))):=by
 have h:iY x y<0↔(x.pos<y.pos∨x.pos=y.pos∧x.neg<y.neg):=by
  unfold iY m7
  split<;>split<;>first|omega|(split<;>omega)
 rw [Bool.eq_iff_iff]
 simp only [ltOf,decide_eq_true_eq,Bool.or_eq_true,Bool.and_eq_true]
 exact h
theorem akz:SWO (ltOf iY) where
 irrefl x:=by rw [uS];simp
 trans x y z h1 h2:=by rw [uS] at*;simp at*;omega
 ntrans x y z h1 h2:=by rw [uS] at*;simp at*;omega
theorem akV (x y:Cl) (h1:ltOf iY x y=false) (h2:ltOf iY y x=false):x=y:=by
 rw [uS] at*;simp at*
 obtain ⟨a,b⟩:=x
 obtain ⟨a',b'⟩:=y
 simp at*
 omega
theorem ada:(fun x y:Cl=> !ltOf iY y x)=lq:=by
 funext x y
 rw [uS,Bool.eq_iff_iff]
 simp [lq]
 omega
instance:Inhabited Cl:=⟨⟨0,0⟩⟩
theorem akg (b c:Nat) (d:List Cl) (w:World) (hH:HoldsK eF 2 w b 0 d.toArray) (hb:b<w.heap.size) (hsz:d.length<4611686018427387904):
  Calls Tryz.prog 170 #[.slice (some ⟨b,0,none⟩) d.length c,.func (.func 171) #[] #[]] w fun e w'=>e= .returned (.tuple #[])∧ ∃n os,w'=sortWorldK eF 2 w b 0 n (sortCl d).toArray os:=by
 have eg: ∀args w,(callFunc 171 args).run Tryz.prog w= .ok (.enter 171 args) w:=enters_of Tryz.func171 (by kernel_rfl) rfl
 have h:=AnyQ.slices_SortFunc_total Tryz.sortCl 2 Tryz.isAgg46 Tryz.sizeOf46 eF (fun _=>rfl) (fun x v hv=>by simp [eF] at hv;rcases hv with rfl|rfl<;>rfl) iY akz 171 #[] b 0 c d.toArray w eg (fun _ _ _ _ x y=>Z6 x y _) hH hb hsz akV
 rw [ada] at h
 exact h
theorem akh (p:Option Addr) (c:Nat) (w:World):Calls Tryz.prog 170 #[.slice p 0 c,.func (.func 171) #[] #[]] w fun e w'=>e= .returned (.tuple #[])∧w'=w:=
 AnyF.slices_SortFunc_none Tryz.sortCl p c _ w
theorem akf {m:Nat} {d:Array Cl} {os:Array Obj} {w:World} {b k:Nat} (hk:k<w.heap.size) (hne:k≠b):(sortWorldK eF 2 w b 0 m d os).heap[k]? =w.heap[k]? :=by
 unfold sortWorldK putRowK putRow mapBlock
 rw [heap_grow_old _ _ (by simpa [ahead] using hk)]
 show (w.heap.modify b _)[k]? =_
 rw [Array.getElem?_modify,if_neg (Ne.symm hne)]
theorem ake {m:Nat} {d:Array Cl} {os:Array Obj} {w:World} {b:Nat} {cur:Array Value} {e:TypeId} {fr:Nat×Nat} (h:w.heap[b]? =some (.cells cur e fr)):
  (sortWorldK eF 2 w b 0 m d os).heap[b]? =some (.cells (putCells id 0 (flatK eF 2 d) cur) e fr):=by
 have hb:b<w.heap.size:=(Array.getElem?_eq_some_iff.1 h).1
 unfold sortWorldK putRowK putRow mapBlock
 rw [heap_grow_old _ _ (by simpa [ahead] using hb)]
 show (w.heap.modify b _)[b]? =_
 rw [Array.getElem?_modify,if_pos rfl,h];rfl
theorem Z4 (x:Cl) {k:Nat} {p:PU} (hp:(d6 .C x)[k]? =some p):k<2∧ ∀ (X:Link VV Tryz.prog) (w:World) (N:aN) (g:Gh UU),Rep X w N g (eF x)[k]! p:=by
 match k,hp with
 |0,hp=>cases hp;exact ⟨by omega,fun X w N g=> .int _ _⟩
 |1,hp=>cases hp;exact ⟨by omega,fun X w N g=> .int _ _⟩
 |k+2,hp=>simp [d6] at hp
theorem adf {w:World} {b c:Nat} {l:List Cl} {cur:Array Value} {e:TypeId} (hb:w.heap[b]? =some (.cells cur e (0,0))) (hs:cur.size=c*2) (hl:l.length≤c) (h: ∀ (j:Nat) (x:Cl),l[j]? =some x→ ∀k,k<2→w.cell? ⟨b,j*2+k,none⟩=some (eF x)[k]!):HoldsK eF 2 w b 0 l.toArray:=by
 intro t ht
 rw [size_flatK] at ht
 have ht':t<l.length*2:=by simpa using ht
 have hj:t/2<l.length:=by omega
 have hx:l[t/2]? =some l.toArray[t/2]! :=by simp [hj]
 refine ⟨?_, ?_⟩
 ·rw [get_flatK _ _ _ _ ht]
  have:=h _ _ hx (t%2) (Nat.mod_lt _ (by omega))
  rw [Nat.zero_add]
  rw [show t/2*2+t%2=t by omega] at this
  exact this
 ·simp [World.frozen?,hb]
theorem adl {f:Nat} {ps:List PU} {l l':List Cl} (h:EK f ps l=some l'):f=170∧ps=[.func 171 [] []]∧l'=sortCl l:=by
 unfold EK at h
 split at h
 ·injection h with h
  exact ⟨rfl,rfl,h.symm⟩
 ·cases h
theorem Ad (o:Obj):lf (LL o):=by
 intro f ps e l l' h
 have hi:K9 f ps e l=some l':=h
 clear h
 cases e with
 |T=>cases hi
 |B=>cases hi
 |I=>cases hi
 |F=>cases hi
 |D=>cases hi
 |G=>cases hi
 |C=>
 obtain ⟨rfl,rfl,rfl⟩:=adl hi
 refine ⟨⟨Tryz.f170,Tryz.func170,by kernel_rfl,rfl⟩,fun w vs N0 δ hg hδ=> ?_⟩
 have hs:vs.size=2:=hg.size
 obtain ⟨v0,v1,rfl⟩: ∃v0 v1,vs= #[v0,v1]:=by
  obtain ⟨l⟩:=vs
  match l,hs with
  |[v,v'],_=>exact ⟨v,v',rfl⟩
 have h0:ObOK (LL o) w (NB N0 0 (fun _=>0) δ) (gB UU 0 fun _=>0) ET.C l v0 .wr (δ 0):=hg.args 0 _ rfl
 have h1:Rep (LL o) w (NB N0 0 (fun _=>0) δ) (gB UU 0 fun _=>0) v1 (.func 171 [] []):=hg.args 1 _ rfl
 cases h1 with
 |func _ _ _ xs ys ha hb _ _=>
 have ha':xs= #[]:=by simpa using ha
 have hb':ys= #[]:=by simpa using hb
 subst ha';subst hb'
 obtain ⟨A,n,c,rfl,hl,hc,hcell,hm⟩:=h0.val
 have hl: @List.length Cl l=n:=hl
 cases hD:δ 0 with
 |none=>
  rw [hD] at hm hcell
  obtain ⟨rfl,rfl,rfl⟩:=hm.1 rfl
  have:l=([]:List Cl):=List.length_eq_zero_iff.1 hl
  subst this
  refine (akh none 0 w).mono ?_
  rintro e w' ⟨rfl,rfl⟩
  refine ⟨rfl,.refl _ _, ?_⟩
  rw [hD] at h0
  have:sortCl []=[]:=by simp [sortCl]
  rw [this]
  exact h0
 |some b=>
  rw [hD] at hm hcell
  obtain ⟨hu,cur,rfl,hblk,hsz,hmax⟩:=hm
  have hbl:b<w.heap.size:=(Array.getElem?_eq_some_iff.1 hblk).1
  have hcs:cur.size=c*2:=hsz
  have hH:HoldsK eF 2 w b 0 l.toArray:=adf hblk hcs (hl▸hc) fun j x hx k hk=>by
   have hp: ∃p,(d6 ET.C x)[k]? =some p∧p= .int .u32 (if k=0 then x.pos else x.neg):=by
    match k,hk with
    |0,_=>exact ⟨_,rfl,rfl⟩
    |1,_=>exact ⟨_,rfl,rfl⟩
   obtain ⟨p,hp,hpe⟩:=hp
   obtain ⟨a,v,ha,hv,hr,_⟩:=hcell j x hx k p hp
   injection ha with ha
   subst ha
   subst hpe
   have hv':w.cell? ⟨b,j*2+k,none⟩=some v:=by
    have:(⟨b,0,none⟩:Addr).add (j*(LL o).esize ET.C+k)=⟨b,j*2+k,none⟩:=by
     rw [Addr.add_lit'];show (⟨b,0+(j*2+k),none⟩:Addr)=_;congr 1;omega
    rw [this] at hv;exact hv
   rw [hv']
   cases hr
   match k,hk with
   |0,_=>rfl
   |1,_=>rfl
  have hlt: @List.length Cl l<4611686018427387904:=by
   have:n≤1099511627776:=hmax.2
   omega
  have hcall:=akg b c l w hH hbl hlt
  have he:(.slice (some ⟨b,0,none⟩) (@List.length Cl l) c:Value)= .slice (some ⟨b,0,none⟩) n c:=by rw [hl]
  rw [he] at hcall
  refine hcall.mono ?_
  rintro e w' ⟨rfl,m,os,rfl⟩
  have hlen:(sortCl l).length= @List.length Cl l:=List.length_mergeSort _
  have hH':=holdsK_sortWorldK_c eF 2 w b 0 l.toArray (sortCl l).toArray m os hH hbl hlen
  refine ⟨rfl,⟨rfl,rfl,rfl,size_sortWorldK_c eF 2 w b 0 m _ os,fun k hk hne=>akf hk fun e=>hne ?_⟩, ?_⟩
  ·subst e
   exact List.mem_append_right _ (List.mem_filterMap.2 ⟨0,by simp,hD⟩)
  ·refine ⟨_,n,c,rfl,hlen.trans hl,hc,fun j x hx k p hp=> ?_, ?_⟩
   ·obtain ⟨hk,hrep⟩:=Z4 x hp
    have hj:j<(sortCl l).length:=(List.getElem?_eq_some_iff.1 hx).1
    have:=(hH'.cell (i:=j) (c:=k) (by simpa using hj) hk).1
    have he:(sortCl l).toArray[j]! =x:=by
     have:=List.getElem?_eq_some_iff.1 hx
     rw [getElem!_pos _ j (by simpa using hj)];exact this.2
    rw [he] at this
    refine ⟨_,_,rfl, ?_,hrep _ _ _ _,fun h=>by cases h⟩
    have e:(⟨b,0,none⟩:Addr).add (j*(LL o).esize ET.C+k)=⟨b,0+j*2+k,none⟩:=by
     rw [Addr.add_lit'];show (⟨b,0+(j*2+k),none⟩:Addr)=_;congr 1;omega
    show World.cell? _ (Addr.add _ _)=_
    rw [e];exact this
   ·exact ⟨hu,_,rfl,ake hblk,by simp [putCells];exact hcs,hmax⟩
end Go.Proofs.YtfkkpkhfjpaafaaGreatDoor
namespace Go.Proofs.YtfkkpkhfjpaafaaGreatDoor
open Go PI Go.ChangeShapes Go.WideShapes Go.ChangeAt Go.RowKit
set_option linter.unusedVariables false
set_option linter.unusedSimpArgs false
set_option maxRecDepth 100000
theorem own:ownKnob Tryz.prog.godebug=none:=by kernel_rfl
theorem KM:Tryz.prog.globalNamed "math/bits.deBruijn32tab" =some 0:=by kernel_rfl
section
variable {H:Type} {enc:TypeId×Value→H}
structure Kept (W W':World):Prop where
 os:W'.os=W.os
 output:W'.output=W.output
 size:W.heap.size≤W'.heap.size
 block: ∀b,b<W.heap.size→W'.heap[b]? =W.heap[b]?
theorem Kept.sameAt {W W':World} (h:Kept W W') {p:MemPlace} (hp:p.block<W.heap.size):W.sameAt W' p:=by
 cases p with
 |cell b o=>simp only [World.sameAt,World.cell?];rw [h.block b hp]
 |map b=>exact h.block b hp
theorem Kept.kept {W W':World} (h:Kept W W') (may:MemPlace→Prop):W.keptBut W' may:=by
 refine ⟨h.os,h.output,fun i hi=> ?_⟩
 rw [h.block i hi]
 cases W.heap[i]? with
 |none=>rfl
 |some o=>cases o with
  |cells c t fr=>exact ⟨rfl,rfl,rfl,fun _ _=>rfl⟩
  |map es clock=>exact .inr ⟨rfl,rfl⟩
  |_=>rfl
theorem Jk {W W':World} {sp:Nat→Bool} {held:Bool}: ∀ {ts:List TypeId} {vs:List Value} {ds:List (DataW H)} {ps:List MemPlace},
  DataW.TrodAll enc Tryz.prog W 0 sp held ts vs ds ps→(∀p∈ps,W.sameAt W' p)→DataW.TrodAll enc Tryz.prog W' 0 sp held ts vs ds ps
 |[],[],[],_,h,_=>h
 |_::_,_::_,_::_,_,⟨p,q,⟨n,h1⟩,h2,e⟩,hs=>
  ⟨p,q,⟨n,DataW.trod_carry n _ _ _ h1 fun x hx=>hs x (by rw [e];exact List.mem_append_left _ hx)⟩,Jk h2 (fun x hx=>hs x (by rw [e];exact List.mem_append_right _ hx)),e⟩
theorem kids:Kids Tryz.prog (· <Tryz.prog.types.size):=kids_rows (by kernel_rfl) (by kernel_rfl)
theorem full: ∀t e,t<Tryz.prog.types.size→Tryz.prog.underlying t=some (.slice e)→0<Tryz.prog.cellsOf e:=slices_full_of Tryz.prog (by kernel_rfl)
theorem ahF {f:Func} {s:ChangeSpec} (hv:s.vars=[]) {dD fresh handsOn again:Bool} {W W':World} {args:Array Value} {ds gs:List (DataW H)} {before:List MemPlace} (hf:f.resultTypes= #[4])
  (hT: ∀t∈f.params.toList,t<Tryz.prog.types.size) (hs:s.fn H ds={results:=[.lit (.bool true)],args:=ds})
  (hW:DataW.Whole enc Tryz.prog f.params.toList s.vars dD W args.toList ds gs before) (hk:Kept W W'):s.post enc Tryz.prog f dD fresh handsOn again W args (.bool true) W':=by
 have hold: ∀p∈before,(fun b=>decide (b<W.heap.size)) p.block=true:=fun p hp=>by simpa using hW.lt p hp
 have hlt: ∀p∈before,p.block<W.heap.size:=fun p hp=>by simpa using hW.lt p hp
 have hW0:=hW
 obtain ⟨p,q,hA,hV,rfl,hz,hn⟩:=hW
 rw [hv] at hV
 obtain ⟨rfl,rfl⟩:=trodVars_none hV
 rw [List.append_nil] at hold hlt hz hn hW0
 have hs':s.fn H (ds++[])={results:=[.lit (.bool true)],args:=ds}:=by rw [List.append_nil];exact hs
 have hr:(Value.bool true).resultList f.resultTypes.size=[.bool true]:=by rw [hf];rfl
 have hres: ∀ (b:Nat) (sp:Nat→Bool) (hd:Bool),DataW.TrodAll enc Tryz.prog W' b sp hd f.resultTypes.toList ((Value.bool true).resultList f.resultTypes.size) (s.fn H (ds++[])).results []:=fun b sp hd=>by
  rw [hr,hs',hf]
  exact trodAll_cons_mk (shut_bool Tryz.underlying4 _) trodAll_mk0
 have hargs: ∀sp:Nat→Bool,(∀p'∈p,sp p'.block=true)→DataW.TrodAll enc Tryz.prog W' 0 sp true f.params.toList args.toList (s.fn H (ds++[])).args p:=fun sp hsp=>by
  rw [hs']
  exact DataW.TrodAll.respare kids full hT (Jk hA fun x hx=>hk.sameAt (hlt x hx)) hsp
 have hvars: ∀sp:Nat→Bool,DataW.TrodVars enc Tryz.prog W' sp s.vars (s.fn H (ds++[])).vars []:=fun sp=>by rw [hv,hs'];rfl
 refine ⟨ds,[],p,[],p,[],hW0,hres _ _ _,hargs _ hold,hvars _,World.keptBut_mono (fun p' hp=>hp.elim) (hk.kept fun _=>False),fun _=> ?_⟩
 refine ⟨fun j t r h1 h2=> ?_,_,_,([]++p)++[],⟨[]++p,[],trodAll_append (hargs _ (fun _ _=>rfl)) (hres _ _ _),hvars _,rfl, ?_, ?_⟩, ?_⟩
 ·rw [hf] at h1
  rw [hr] at h2
  match j,h1,h2 with
  |0,h1,h2=>cases h1;cases h2;exact okWide_bool_mk Tryz.underlying4 _
  |j+1,h1,h2=>simp at h2
 ·intro b off hp
  have hp':MemPlace.cell b off∈p:=by simpa using hp
  have:=hz b off hp'
  simp only [World.frozen?] at this ⊢
  rw [hk.block b (hlt _ hp')]
  exact this
 ·intro ha
  have:=hn ha
  simpa using this
 ·intro p' hp _
  simpa using hp
variable {w:World} {spare:Nat→Bool} {held:Bool} {o:Obj} {N:aN} {g:Gh UU}
theorem Zs {v:Value} {n:Nat} (h:v.cells.toList.length=n+2): ∃vs:Array Value,v= .agg vs∧vs.toList=v.cells.toList:=by
 cases v with
 |agg vs=>exact ⟨vs,rfl,rfl⟩
 |_=>simp [Value.cells] at h
theorem ZG (hN: ∀b o,¬N b o) {v:Value} {d:DataW H} {ps:List MemPlace} (h:DataW.Trod enc Tryz.prog w 0 spare held 26 v d ps): ∃t:Tm,Rep (LL o) w N g v (.agg (d6 ET.T t))∧QT t d:=by
 obtain ⟨n,hn⟩:=h
 obtain ⟨t,hr,hq⟩:=(ahu (o:=o) (g:=g) hN n).1 _ _ _ hn
 obtain ⟨_,_,_,_,hl,_,_⟩:=DataW.trod_struct Tryz.underlying26 hn
 have hl6:v.cells.toList.length=6:=hl.trans (by kernel_rfl)
 obtain ⟨vs,rfl,hvs⟩:=Zs (n:=4) hl6
 refine ⟨t,Rep.agg (X:=LL o) vs (d6 ET.T t) (by rw [←Array.length_toList,hvs,hl6];rfl) fun j p hp=> ?_,hq⟩
 obtain ⟨v',hv',hr'⟩:=hr j p hp
 have:vs.getD j undef=v':=by
  have h2:vs[j]? =some v':=by rw [←Array.getElem?_toList,hvs];exact hv'
  rw [Array.getD_eq_getD_getElem?,h2];rfl
 rw [this];exact hr'
theorem adb {o:Obj} {W:World} (h0:W.heap[0]? =some o) {vs:Array Value} {ps:List PU} (hs:vs.size=ps.length) (hp:ps.all PV.notFresh=true)
  (h: ∀ (j:Nat) p,ps[j]? =some p→Rep (LL o) W (NB (fun _ _=>False) 0 (fun _=>0) fun _=>none) (gB UU 0 fun _=>0) (vs.getD j undef) p):Given (LL o) W vs (fun _ _=>False) (fun _=>0) (fun _=>none) ps [] where
 bnd:=⟨fun i j hi=>absurd hi (Nat.not_lt_zero i),fun i hi=>absurd hi (Nat.not_lt_zero i),fun j b h=>(by cases h),fun i j b h=>(by cases h),fun j b h=>(by cases h),fun b o h=>h.elim⟩
 size:=hs
 dom:=fun j b h=>by cases h
 glob:=fun b o' hb=>by
  simp [LL] at hb
  obtain ⟨rfl,rfl⟩:=hb
  exact ⟨h0,fun i hi=>absurd hi (Nat.not_lt_zero i),fun j h=>by cases h⟩
 args:=fun j p hj=>RepG.of (h j p hj)
 boxes:=fun k b h=>by simp at h
theorem noN: ∀b o,¬NB (fun _ _=>False) 0 (fun _=>0) (fun _=>none) b o:=by
 rintro b o (h|⟨k,hk,_⟩|⟨j,h⟩)
 ·exact h
 ·exact absurd hk (Nat.not_lt_zero k)
 ·cases h
theorem ZW {o:Obj} {f:FuncId} {ps:List PU} (hok:ci (LL o) f ps [] (.ret (.bool true) [])) {W:World} {vs:Array Value} (hg:Given (LL o) W vs (fun _ _=>False) (fun _=>0) (fun _=>none) ps []):
  Calls Tryz.prog f vs W fun e W'=>e= .returned (.bool true)∧Kept W W':=by
 refine (hok.2 W vs _ _ _ hg).mono ?_
 rintro e W' he
 cases e with
 |returned rv=>
  obtain ⟨ν',δ',hb,hr⟩:=he
  have hr:Rep (LL o) W' _ _ rv (.bool true):=hr
  cases hr
  refine ⟨rfl,hb.ext.os,hb.ext.output,hb.ext.size,fun b hb'=>hb.ext.block b hb' fun hm=> ?_⟩
  simp [h8] at hm
 |panicked ch=>exact he.elim
 |outgrown=>exact he.elim
theorem akK {H:Type}:(Rows.laid_math_bits_deBruijn32tab:DataW H)=Lib.tabData .u8 (Lib.deBruijn32tab.map fun n:Nat=>(n:Int)):=rfl
theorem akL {W:World} (h:laidMetH Tryz.prog [("math/bits.deBruijn32tab",Rows.laid_math_bits_deBruijn32tab)] W): ∃o,ai o∧W.heap[0]? =some o:=by
 have h':laidMet Tryz.prog [("math/bits.deBruijn32tab",Rows.laid_math_bits_deBruijn32tab)] W:=h
 rw [akK] at h'
 have ht:Lib.TabIs Tryz.prog W "math/bits.deBruijn32tab" .u8 (Lib.deBruijn32tab.map fun n:Nat=>(n:Int)):=
  Lib.tabIs_of_head (rest:=[]) KM (by kernel_rfl) Tryz.underlying240 Tryz.underlying5 (by kernel_rfl) (by kernel_rfl) h'
 have hc: ∀j,j<Lib.deBruijn32tab.length→W.cell? ⟨0,j,none⟩=some (.int .u8 (Lib.deBruijn32tab.getD j 0:Nat)):=fun j hj=>by
  rw [ht.cell KM j (by simpa using hj)]
  simp [List.getD,hj]
 have h0:=hc 0 (by decide)
 cases hh:W.heap[0]? with
 |none=>simp [World.cell?,hh] at h0
 |some o=>
  cases o with
  |cells cur e fr=>
   refine ⟨_,⟨cur,e,fr,rfl,fun j hj=> ?_⟩,rfl⟩
   have:=hc j hj
   simpa [World.cell?,hh] using this
  |_=>simp [World.cell?,hh] at h0
end
end Go.Proofs.YtfkkpkhfjpaafaaGreatDoor
namespace Go.Proofs.YtfkkpkhfjpaafaaGreatDoor
open Go PI
set_option linter.unusedVariables false
set_option linter.unusedSimpArgs false
set_option maxRecDepth 100000
noncomputable section
abbrev Rw (S:Type):=List PU→List (Box UU)→(Out UU→Option S)→Option S
abbrev Kn (S:Type):=(Out UU→Option S)→Option S
noncomputable def iI (n:Int):PU:= .int .i64 n
noncomputable def iU (n:Int):PU:= .int .u32 n
noncomputable def pt (i:Nat):PU:= .ptr i 0
noncomputable def aT (t:Tm):PU:= .agg [.int .i64 t.kind,.int .i64 t.n,.str t.name,bZ t.r .none,dO t.kids .none,dN t.sys .none]
noncomputable def aC (c:Cl):PU:= .agg [.int .u32 c.pos,.int .u32 c.neg]
noncomputable def aB (b:Br Tm):PU:= .agg [bZ b.face .none,dO b.kids .none]
noncomputable def bT (t:Tm):Box UU:= .cells [.int .i64 t.kind,.int .i64 t.n,.str t.name,bZ t.r .none,dO t.kids .none,dN t.sys .none]
noncomputable def bC (c:Cl):Box UU:= .cells [.int .u32 c.pos,.int .u32 c.neg]
noncomputable def bI (n:Int):Box UU:= .cells [.int .i64 n]
noncomputable def bb (b:Bool):Box UU:= .cells [.bool b]
noncomputable def sC (l:List Cl):PU:=bZ l .none
noncomputable def sT (l:List Tm):PU:=dO l .none
noncomputable def sB (l:List (Br Tm)):PU:=dN l .none
structure Cd where
 D:Type→Type
 k:{ρ:Type}→ρ→D ρ
 dec:{ρ:Type}→D ρ→PU→Option ρ
 A:{ρ:Type}→D ρ→(PU→ρ→Prop)→Prop
 law: ∀ {ρ:Type} (f:D ρ) (v:PU) (r:ρ) (Q:PU→ρ→Prop),A f Q→dec f v=some r→Q v r
structure Cs where
 D:Type→Type
 n:Nat
 k:{ρ:Type}→ρ→D ρ
 dec:{ρ:Type}→D ρ→List PU→Option ρ
 A:{ρ:Type}→D ρ→(List PU→ρ→Prop)→Prop
 law: ∀ {ρ:Type} (f:D ρ) (v:List PU) (r:ρ) (Q:List PU→ρ→Prop),A f Q→dec f v=some r→Q v r
 len: ∀ {ρ:Type} (f:D ρ) (v:List PU) (r:ρ),dec f v=some r→v.length=n
structure Bs where
 D:Type→Type
 n:Nat
 k:{ρ:Type}→ρ→D ρ
 dec:{ρ:Type}→D ρ→List (Box UU)→Option ρ
 A:{ρ:Type}→D ρ→(List (Box UU)→ρ→Prop)→Prop
 law: ∀ {ρ:Type} (f:D ρ) (v:List (Box UU)) (r:ρ) (Q:List (Box UU)→ρ→Prop),A f Q→dec f v=some r→Q v r
 len: ∀ {ρ:Type} (f:D ρ) (v:List (Box UU)) (r:ρ),dec f v=some r→v.length=n
noncomputable def cn:Cs where
 D ρ:=ρ
 n:=0
 k r:=r
 dec f:=fun|[]=>some f|_=> .none
 A f Q:=Q [] f
 law f v r Q h e:=by split at e<;>cases e;exact h
 len f v r e:=by split at e<;>cases e;rfl
noncomputable def cc (c:Cd) (s:Cs):Cs where
 D ρ:=c.D (s.D ρ)
 n:=s.n+1
 k r:=c.k (s.k r)
 dec f:=fun|v::l=>(c.dec f v).bind fun g=>s.dec g l|[]=> .none
 A f Q:=c.A f fun v g=>s.A g fun l r=>Q (v::l) r
 law f v r Q h e:=by
  split at e
  ·obtain ⟨g,h1,h2⟩:=Option.bind_eq_some_iff.1 e
   have:=s.law g _ r _ (c.law f _ g _ h h1) h2;exact this
  ·cases e
 len f v r e:=by
  split at e
  ·obtain ⟨g,h1,h2⟩:=Option.bind_eq_some_iff.1 e
   simp [s.len g _ r h2]
  ·cases e
noncomputable def xn:Bs where
 D ρ:=ρ
 n:=0
 k r:=r
 dec f:=fun|[]=>some f|_=> .none
 A f Q:=Q [] f
 law f v r Q h e:=by split at e<;>cases e;exact h
 len f v r e:=by split at e<;>cases e;rfl
noncomputable def xc (c:Cs) (s:Bs):Bs where
 D ρ:=c.D (s.D ρ)
 n:=s.n+1
 k r:=c.k (s.k r)
 dec f:=fun| .cells v::l=>(c.dec f v).bind fun g=>s.dec g l|_=> .none
 A f Q:=c.A f fun v g=>s.A g fun l r=>Q (.cells v::l) r
 law f v r Q h e:=by
  split at e
  ·obtain ⟨g,h1,h2⟩:=Option.bind_eq_some_iff.1 e
   have:=s.law g _ r _ (c.law f _ g _ h h1) h2;exact this
  ·cases e
 len f v r e:=by
  split at e
  ·obtain ⟨g,h1,h2⟩:=Option.bind_eq_some_iff.1 e
   simp [s.len g _ r h2]
  ·cases e
noncomputable def cI:Cd where
 D ρ:=Int→ρ
 k r:=fun _=>r
 dec f:=fun| .int .i64 n=>some (f n)|_=> .none
 A f Q:= ∀n:Int,Q (iI n) (f n)
 law f v r Q h e:=by split at e<;>cases e;exact h _
noncomputable def cU:Cd where
 D ρ:=Int→ρ
 k r:=fun _=>r
 dec f:=fun| .int .u32 n=>some (f n)|_=> .none
 A f Q:= ∀n:Int,Q (iU n) (f n)
 law f v r Q h e:=by split at e<;>cases e;exact h _
noncomputable def cN (kd:IntKind):Cd where
 D ρ:=Int→ρ
 k r:=fun _=>r
 dec f:=fun| .int q n=>(match decEq q kd with| .isTrue _=>some (f n)| .isFalse _=> .none)|_=> .none
 A f Q:= ∀n:Int,Q (.int kd n) (f n)
 law f v r Q h e:=by
  split at e
  ·split at e
   ·rename_i hq _;subst hq;cases e;exact h _
   ·cases e
  ·cases e
noncomputable def cb:Cd where
 D ρ:=Bool→ρ
 k r:=fun _=>r
 dec f:=fun| .bool n=>some (f n)|_=> .none
 A f Q:= ∀n:Bool,Q (.bool n) (f n)
 law f v r Q h e:=by split at e<;>cases e;exact h _
noncomputable def cs:Cd where
 D ρ:=ByteArray→ρ
 k r:=fun _=>r
 dec f:=fun| .str n=>some (f n)|_=> .none
 A f Q:= ∀n:ByteArray,Q (.str n) (f n)
 law f v r Q h e:=by split at e<;>cases e;exact h _
noncomputable def lC:Cd where
 D ρ:=List Cl→ρ
 k r:=fun _=>r
 dec f:=fun| .sl .C n .none=>some (f n)|_=> .none
 A f Q:= ∀n:List Cl,Q (sC n) (f n)
 law f v r Q h e:=by split at e<;>cases e;exact h _
noncomputable def lT:Cd where
 D ρ:=List Tm→ρ
 k r:=fun _=>r
 dec f:=fun| .sl .T n .none=>some (f n)|_=> .none
 A f Q:= ∀n:List Tm,Q (sT n) (f n)
 law f v r Q h e:=by split at e<;>cases e;exact h _
noncomputable def lB:Cd where
 D ρ:=List (Br Tm)→ρ
 k r:=fun _=>r
 dec f:=fun| .sl .B n .none=>some (f n)|_=> .none
 A f Q:= ∀n:List (Br Tm),Q (sB n) (f n)
 law f v r Q h e:=by split at e<;>cases e;exact h _
noncomputable def lI:Cd where
 D ρ:=List Int→ρ
 k r:=fun _=>r
 dec f:=fun| .sl .I n .none=>some (f n)|_=> .none
 A f Q:= ∀n:List Int,Q (la n .none) (f n)
 law f v r Q h e:=by split at e<;>cases e;exact h _
noncomputable def lF:Cd where
 D ρ:=List (List Cl)→ρ
 k r:=fun _=>r
 dec f:=fun| .sl .F n .none=>some (f n)|_=> .none
 A f Q:= ∀n:List (List Cl),Q (Hm n .none) (f n)
 law f v r Q h e:=by split at e<;>cases e;exact h _
noncomputable def hC:Cd where
 D ρ:=List Cl→ρ
 k r:=fun _=>r
 dec f:=fun| .fresh .C n=>some (f n)|_=> .none
 A f Q:= ∀n:List Cl,Q (Ev n) (f n)
 law f v r Q h e:=by split at e<;>cases e;exact h _
noncomputable def hT:Cd where
 D ρ:=List Tm→ρ
 k r:=fun _=>r
 dec f:=fun| .fresh .T n=>some (f n)|_=> .none
 A f Q:= ∀n:List Tm,Q (frT n) (f n)
 law f v r Q h e:=by split at e<;>cases e;exact h _
noncomputable def hB:Cd where
 D ρ:=List (Br Tm)→ρ
 k r:=fun _=>r
 dec f:=fun| .fresh .B n=>some (f n)|_=> .none
 A f Q:= ∀n:List (Br Tm),Q (frB n) (f n)
 law f v r Q h e:=by split at e<;>cases e;exact h _
noncomputable def cT:Cd where
 D ρ:=Tm→ρ
 k r:=fun _=>r
 dec f:=fun| .agg [.int .i64 a,.int .i64 b,.str c,.sl .C d .none,.sl .T e .none,.sl .B g .none]=>some (f (Tm.mk a b c d e g))|_=> .none
 A f Q:= ∀t:Tm,Q (aT t) (f t)
 law f v r Q h e:=by split at e<;>cases e;exact h (Tm.mk _ _ _ _ _ _)
noncomputable def cC:Cd where
 D ρ:=Cl→ρ
 k r:=fun _=>r
 dec f:=fun| .agg [.int .u32 a,.int .u32 b]=>some (f ⟨a,b⟩)|_=> .none
 A f Q:= ∀t:Cl,Q (aC t) (f t)
 law f v r Q h e:=by split at e<;>cases e;exact h (⟨_,_⟩)
noncomputable def xT (s:Bs):Bs where
 D ρ:=Tm→s.D ρ
 n:=s.n+1
 k r:=fun _=>s.k r
 dec f:=fun| .cells [.int .i64 a,.int .i64 b,.str c,.sl .C d .none,.sl .T e .none,.sl .B g .none]::l=>s.dec (f (Tm.mk a b c d e g)) l|_=> .none
 A f Q:= ∀t:Tm,s.A (f t) fun l r=>Q (bT t::l) r
 law f v r Q h e:=by
  split at e
  ·have:=s.law _ _ r _ (h (Tm.mk _ _ _ _ _ _)) e;exact this
  ·cases e
 len f v r e:=by
  split at e
  ·simp [s.len _ _ r e]
  ·cases e
noncomputable def xC (s:Bs):Bs where
 D ρ:=Cl→s.D ρ
 n:=s.n+1
 k r:=fun _=>s.k r
 dec f:=fun| .cells [.int .u32 a,.int .u32 b]::l=>s.dec (f ⟨a,b⟩) l|_=> .none
 A f Q:= ∀t:Cl,s.A (f t) fun l r=>Q (bC t::l) r
 law f v r Q h e:=by
  split at e
  ·have:=s.law _ _ r _ (h (⟨_,_⟩)) e;exact this
  ·cases e
 len f v r e:=by
  split at e
  ·simp [s.len _ _ r e]
  ·cases e
noncomputable def xI (s:Bs):Bs where
 D ρ:=Int→s.D ρ
 n:=s.n+1
 k r:=fun _=>s.k r
 dec f:=fun| .cells [.int .i64 a]::l=>s.dec (f a) l|_=> .none
 A f Q:= ∀t:Int,s.A (f t) fun l r=>Q (bI t::l) r
 law f v r Q h e:=by
  split at e
  ·have:=s.law _ _ r _ (h _) e;exact this
  ·cases e
 len f v r e:=by
  split at e
  ·simp [s.len _ _ r e]
  ·cases e
noncomputable def cp (i:Nat):Cd where
 D ρ:=ρ
 k r:=r
 dec f:=fun| .ptr j 0=>(match decEq j i with| .isTrue _=>some f| .isFalse _=> .none)|_=> .none
 A f Q:=Q (pt i) f
 law f v r Q h e:=by
  split at e
  ·split at e
   ·rename_i hq _;subst hq;cases e;exact h
   ·cases e
  ·cases e
noncomputable def cg (s:Cs):Cd where
 D ρ:=s.D ρ
 k r:=s.k r
 dec f:=fun| .agg l=>s.dec f l|_=> .none
 A f Q:=s.A f fun l r=>Q (.agg l) r
 law f v r Q h e:=by
  split at e
  ·have:=s.law f _ r _ h e;exact this
  ·cases e
noncomputable def cf (i:Nat) (s:Cs) (u:Cs):Cd where
 D ρ:=s.D (u.D ρ)
 k r:=s.k (u.k r)
 dec f:=fun| .func j l m=>(match decEq j i with| .isTrue _=>(s.dec f l).bind fun g=>u.dec g m| .isFalse _=> .none)|_=> .none
 A f Q:=s.A f fun l g=>u.A g fun m r=>Q (.func i l m) r
 law f v r Q h e:=by
  split at e
  ·split at e
   ·rename_i hq _
    subst hq
    obtain ⟨g,h1,h2⟩:=Option.bind_eq_some_iff.1 e
    have:=u.law g _ r _ (s.law f _ g _ h h1) h2;exact this
   ·cases e
  ·cases e
noncomputable def aj {S:Type} (K:Cs) (B:Bs) (F:K.D (B.D (Kn S))):Rw S:=fun vs bs κ=>(K.dec F vs).bind fun g=>(B.dec g bs).bind fun h=>h κ
noncomputable def uy (K:Cs) (B:Bs) (vs:List PU) (bs:List (Box UU)):Bool:=((K.dec (K.k (B.k ())) vs).bind fun g=>B.dec g bs).isSome
noncomputable def AA {S:Type} (K:Cs) (B:Bs) (F:K.D (B.D (Kn S))) (Q:List PU→List (Box UU)→Kn S→Prop):Prop:=K.A F fun vs g=>B.A g fun bs h=>Q vs bs h
theorem Ay {S:Type} {K:Cs} {B:Bs} {F:K.D (B.D (Kn S))} {Q:List PU→List (Box UU)→Kn S→Prop} (hA:AA K B F Q) {vs:List PU} {bs:List (Box UU)} {κ:Out UU→Option S} {x:S} (h:aj K B F vs bs κ=some x):
  ∃g,Q vs bs g∧g κ=some x∧vs.length=K.n∧bs.length=B.n:=by
 obtain ⟨g,h1,h2⟩:=Option.bind_eq_some_iff.1 h
 obtain ⟨u,h3,h4⟩:=Option.bind_eq_some_iff.1 h2
 have:=K.law F vs g _ hA h1
 have:=B.law g bs u _ this h3
 exact ⟨u,this,h4,K.len _ _ _ h1,B.len _ _ _ h3⟩
noncomputable def Tl {S:Type} (o:Obj) (f:Nat) (r:Rw S):Prop:= ∀vs bs κ x,r vs bs κ=some x→ ∃out,ci (LL o) f vs bs out∧κ out=some x
noncomputable def vt {S:Type}:List (Nat×Rw S)→Oracle UU S
 |[],_,_,_,_=> .none
 |(g,r)::l,f,vs,bs,κ=>bif Nat.beq f g then r vs bs κ else vt l f vs bs κ
noncomputable def TA {S:Type} (o:Obj):List (Nat×Rw S)→Prop
 |[]=>True
 |(f,r)::l=>Tl o f r∧TA o l
theorem TA.tells {S:Type} {o:Obj}: ∀ {l:List (Nat×Rw S)},TA o l→(vt l).Tells (ci (LL o))
 |[],_,f,vs,bs,κ,x,h=>by cases h
 |(g,r)::l,hl,f,vs,bs,κ,x,h=>by
  unfold vt at h
  cases hb:Nat.beq f g with
  |true=>
   rw [hb] at h
   have:=Nat.eq_of_beq_eq_true hb
   subst this
   exact hl.1 _ _ _ _ h
  |false=>
   rw [hb] at h
   exact TA.tells hl.2 _ _ _ _ _ h
noncomputable def ol {S:Type} (b:List PU→List (Box UU)→Bool) (r q:Rw S):Rw S:=fun vs bs κ=>bif b vs bs then r vs bs κ else q vs bs κ
theorem vw {S:Type} {o:Obj} {f:Nat} {b:List PU→List (Box UU)→Bool} {r q:Rw S} (h1:Tl o f r) (h2:Tl o f q):Tl o f (ol b r q):=fun vs bs κ x h=>by
 unfold ol at h
 rcases ZM h with h|h
 ·exact h1 _ _ _ _ h
 ·exact h2 _ _ _ _ h
structure Fx (S:Type) where
 sd:Side UU
 rows:List (Nat×Rw S)
 loops:List (Nat×Ann×List Bool)
 k:Nat
 fn:Func
 kp:Bool
 hn:List Bool
 nb:Nat
 cd:Option (PU→Oracle UU S)
noncomputable def Jm:List (Nat×Ann×List Bool)→Nat→Option Ann
 |[],_=> .none
 |(i,a,_)::l,n=>bif Nat.beq n i then some a else Jm l n
noncomputable def Fl:List (Nat×Ann×List Bool)→Nat→Ann×List Bool
 |[],_=>(⟨[],[]⟩,[])
 |(i,a)::l,n=>bif Nat.beq n i then a else Fl l n
noncomputable def aS (rs:List Nat) (bs:List (Nat×Nat)):Ann:=⟨rs.map fun n=>(n,.none),bs.map fun p=>(p.1,List.replicate p.2 .none)⟩
noncomputable def ap:Nat→Nat→List Bool
 |0,_=>[]
 |n+1,b=>Nat.beq (b%2) 1::ap n (b/2)
noncomputable def fx {S:Type} (nt:Nat) (gv:Nat→List Bool) (ip:Nat→Bool) (rows:List (Nat×Rw S)) (loops:List (Nat×Ann×List Bool)) (k:Nat) (fn:Func) (kp:Bool) (hn:List Bool) (nb:Nat):Fx S:=
 ⟨⟨nt,gv,ip,.none,fun _=>false⟩,rows,loops,k,fn,kp,hn,nb,.none⟩
noncomputable def fp {S:Type} (nt:Nat) (rows:List (Nat×Rw S)) (loops:List (Nat×Ann×List Bool)) (k:Nat) (fn:Func) (nb:Nat):Fx S:=fx nt (fun _=>[]) (fun _=>false) rows loops k fn false [] nb
variable {S:Type}
noncomputable def Fx.oc (F:Fx S):Oracle UU S:=vt F.rows
noncomputable def Fx.an (F:Fx S):Nat→Option Ann:=Jm F.loops
noncomputable def Fx.go (F:Fx S) (c:Code) (σ:St UU) (κ:Ex UU→St UU→Option S):Option S:=PI.run VV F.sd F.oc F.an F.k c σ κ
noncomputable def Fx.kt (F:Fx S) (κ:Out UU→Option S) (p:List Bool) (κs:List (St UU→Option S)):Ex UU→St UU→Option S:=match F.cd with
 | .none=>kn VV F.sd F.oc F.an F.k (gw F.fn) p κs F.an (kF VV F.oc F.kp F.hn F.fn F.nb κ)
 |some C=>Lz VV F.sd F.oc F.an F.k (gw F.fn) p κs F.an (kF VV F.oc F.kp F.hn F.fn F.nb κ) (kD VV F.oc C F.kp F.hn F.fn F.nb κ)
noncomputable def Fx.run (F:Fx S) (vs:List PU) (bs:List (Box UU)) (κ:Out UU→Option S):Option S:=match F.cd with
 | .none=>rC VV F.sd F.oc F.an F.k F.kp F.hn F.fn vs bs κ
 |some C=>G4 VV F.sd F.oc F.an F.k C F.kp F.hn F.fn vs bs κ
noncomputable def Fx.A (F:Fx S) (i:Nat):Ann:=(Fl F.loops i).1
noncomputable def Fx.p (F:Fx S) (i:Nat):List Bool:=(Fl F.loops i).2
noncomputable def Fx.lp (F:Fx S) (κ:Out UU→Option S) (i:Nat) (κs:List (St UU→Option S)) (n:Nat) (σ:St UU):Option S:=
 uR (dS (F.A i)) (fun σ κ=>F.go (g9 (gw F.fn) (F.p i++[false])) σ κ) n σ (F.kt κ (F.p i) κs)
noncomputable def Fx.st (F:Fx S) (κ:Out UU→Option S) (i:Nat) (κs:List (St UU→Option S)) (r:St UU→Option S) (σ:St UU):Option S:=
 F.go (g9 (gw F.fn) (F.p i++[false])) σ (back (dS (F.A i)) r (F.kt κ (F.p i) κs))
noncomputable def Fx.jn (F:Fx S) (κ:Out UU→Option S) (i:Nat) (κs:List (St UU→Option S)) (n:Nat) (σ:St UU):Option S:=
 ER (fun σ κ=>F.go (g9 (gw F.fn) (F.p i)) σ κ) n σ (F.kt κ (F.p i) κs)
noncomputable def Fx.sj (F:Fx S) (κ:Out UU→Option S) (i:Nat) (κs:List (St UU→Option S)) (σ:St UU):Option S:=F.go (g9 (gw F.fn) (F.p i)) σ (F.kt κ (F.p i) κs)
theorem Fx.lp_succ (F:Fx S) (κ:Out UU→Option S) (i:Nat) (κs:List (St UU→Option S)) (n:Nat) (σ:St UU):F.lp κ i κs (n+1) σ=F.st κ i κs (fun τ=>F.lp κ i κs n τ) σ:=rfl
theorem Fx.jn_succ (F:Fx S) (κ:Out UU→Option S) (i:Nat) (κs:List (St UU→Option S)) (n:Nat) (σ:St UU):F.jn κ i κs (n+1) σ=F.sj κ i κs σ:=rfl
noncomputable def vu (F:Fx S) (n m:Nat):Bool:=(F.fn.name== "runtime.NumGoroutine")==false&&(F.fn.body.isNone==false&&(Nat.beq F.fn.ntmps F.sd.nt&&(Nat.ble F.sd.nt 1000000&&(Nat.ble n F.sd.nt&&Nat.ble m 1000000))))
theorem FV {F:Fx S} {n m:Nat} (h:vu F n m=true):(F.fn.name== "runtime.NumGoroutine")=false∧F.fn.body.isNone=false∧F.fn.ntmps=F.sd.nt∧F.sd.nt≤1000000∧n≤F.sd.nt∧m≤1000000:=by
 unfold vu at h
 simp only [Bool.and_eq_true,beq_iff_eq] at h
 obtain ⟨h1,h2,h3,h4,h5,h6⟩:=h
 exact ⟨h1,h2,Nat.eq_of_beq_eq_true h3,Nat.le_of_ble_eq_true h4,Nat.le_of_ble_eq_true h5,Nat.le_of_ble_eq_true h6⟩
theorem ak {o:Obj} {K:Cs} {B:Bs} {R:K.D (B.D (Kn S))} (F:Fx S) {f:FuncId} (ht:TA o F.rows) (hf:Tryz.prog.funcs[f]? =some F.fn) (hb:vu F K.n B.n=true) (run:AA K B R fun vs bs g=> ∀κ x,g κ=some x→F.run vs bs κ=some x)
  (h1:F.sd.rcv= .none:=by rfl) (h2:F.sd.pin=(fun _=>false):=by rfl) (h3:F.cd= .none:=by rfl):Tl o f (aj K B R):=fun vs bs κ x h=>by
 obtain ⟨g,hg,hx,hl,hm⟩:=Ay run h
 have hr:=hg κ x hx
 unfold Fx.run at hr
 rw [h3] at hr
 obtain ⟨b1,b2,b3,b4,b5,b6⟩:=FV hb
 exact sw (QJ Ax (Ad o) h1 h2 ht.tells hf b1 b2 b3 b4 (by omega) hr)
open Classical in
noncomputable def DB {S:Type} (bs:List (Box UU)) (κ:Out UU→Option S):Out UU→Option S
 | .ret v cs=>if cs=bs then κ (.ret v []) else .none
 | .panic .. => .none
theorem tlS {S:Type} {o:Obj} {K:Cs} {B:Bs} {R:K.D (B.D (Kn S))} {f:FuncId} {r:Rw S} (h:Tl o f r) (run:AA K B R fun vs bs g=> ∀κ x,g κ=some x→r vs bs (DB bs κ)=some x):Tl o f (aj K B R):=fun vs bs κ x hx=>by
 obtain ⟨g,hg,hx,_⟩:=Ay run hx
 obtain ⟨out,hok,hκ⟩:=h _ _ _ _ (hg κ x hx)
 cases out with
 |panic v cs=>cases hκ
 |ret v cs=>
  simp only [DB] at hκ
  split at hκ
  case isFalse=>cases hκ
  rename_i hc
  subst hc
  refine ⟨.ret v [], ?_,hκ⟩
  have e:Out.full cs (.ret v [])=Out.full cs (.ret v cs):=by
   have hb:Nat.ble cs.length cs.length=true:=by simp
   simp only [Out.full,hb,cond_true]
   cases cs<;>rfl
  unfold ci
  rw [e]
  exact hok
theorem dz {o:Obj} {K:Cs} {B:Bs} {R:K.D (B.D (Kn S))} {f:FuncId} (h0:AA K B R fun vs bs g=> ∀κ x,g κ=some x→False):Tl o f (aj K B R):=fun vs bs κ x h=>by
 obtain ⟨g,hg,hx,_⟩:=Ay h0 h
 exact (hg κ x hx).elim
noncomputable def o9 (nt f:Nat) (fn:Func) (k:Nat):PU→Oracle UU S:=fun v g vs bs κ=>bif Nat.beq g f&&Nat.ble vs.length nt then G5 VV ⟨nt,fun _=>[],fun _=>false,.none,fun _=>false⟩ (vt []) (fun _=> .none) k true [] fn v vs bs κ else .none
theorem yn (o:Obj) {nt f:Nat} {fn:Func} {k:Nat} (hf:Tryz.prog.funcs[f]? =some fn) (hb:vu (fp nt [] [] k fn 0:Fx S) 0 0=true): ∀v u u',RcvOK v u u'→(o9 (S:=S) nt f fn k v).Tells (jS (LL o) (jM Tryz.prog u u')):=by
 intro v u u' hv g vs bs κ x h
 unfold o9 at h
 cases hc:Nat.beq g f&&Nat.ble vs.length nt with
 |false=>rw [hc] at h;cases h
 |true=>
  rw [hc] at h
  rw [Bool.and_eq_true] at hc
  have:=Nat.eq_of_beq_eq_true hc.1
  subst this
  obtain ⟨b1,b2,b3,b4,_,_⟩:=FV hb
  exact sw (aiz Ax (Ad o) rfl rfl (TA.tells (l:=[]) (o:=o) trivial) hf b1 b2 b3 b4 hv (Nat.le_of_ble_eq_true hc.2) h)
theorem BZ {o:Obj} {K:Cs} {B:Bs} {R:K.D (B.D (Kn S))} (F:Fx S) {f:FuncId} {C:PU→Oracle UU S} (h3:F.cd=some C) (hC: ∀v u u',RcvOK v u u'→(C v).Tells (jS (LL o) (jM Tryz.prog u u'))) (ht:TA o F.rows) (hf:Tryz.prog.funcs[f]? =some F.fn) (hb:vu F K.n B.n=true)
  (run:AA K B R fun vs bs g=> ∀κ x,g κ=some x→F.run vs bs κ=some x) (h1:F.sd.rcv= .none:=by rfl):Tl o f (aj K B R):=fun vs bs κ x h=>by
 obtain ⟨g,hg,hx,hl,hm⟩:=Ay run h
 have hr:=hg κ x hx
 unfold Fx.run at hr
 rw [h3] at hr
 obtain ⟨b1,b2,b3,b4,b5,b6⟩:=FV hb
 exact sw (aix Ax (Ad o) h1 ht.tells hC hf b1 b2 b3 b4 (by omega) (by omega) hr)
theorem gL {F:Fx S} {κ:Out UU→Option S} {i:Nat} {κs:List (St UU→Option S)} {mk:St UU} {l:Nat→Option S} (b:Option S) (h0:l 0= .none) (hs: ∀n,l (n+1)=b) (B:F.sj κ i κs mk=b): ∀ (n:Nat),F.jn κ i κs n mk=l n:=by
 intro n
 cases n with
 |zero=>intros;rw [h0];rfl
 |succ n=>intros;rw [hs,Fx.jn_succ];exact B
theorem cF {F:Fx S} {κ:Out UU→Option S} {i:Nat} {κs:List (St UU→Option S)} {α0:Type} {mk:α0→St UU} {l:Nat→α0→Option S} (b:(α0→Option S)→α0→Option S) (h0:l 0=fun x0=> .none) (hs: ∀n,l (n+1)=b (l n)) (B: ∀ (r:St UU→Option S) x0,F.st κ i κs r (mk x0)=b (fun x0=>r (mk x0)) x0): ∀ (n:Nat) x0,F.lp κ i κs n (mk x0)=l n x0:=by
 intro n
 induction n with
 |zero=>intros;rw [h0];rfl
 |succ n ih=>
  intros
  rw [hs,Fx.lp_succ,B]
  exact congrArg (fun g=>b g _) (funext fun x0=>ih x0)
theorem nx {F:Fx S} {κ:Out UU→Option S} {i:Nat} {κs:List (St UU→Option S)} {α0:Type} {mk:α0→St UU} {l:Nat→α0→Option S} (b:α0→Option S) (h0:l 0=fun x0=> .none) (hs: ∀n,l (n+1)=b) (B: ∀x0,F.sj κ i κs (mk x0)=b x0): ∀ (n:Nat) x0,F.jn κ i κs n (mk x0)=l n x0:=by
 intro n
 cases n with
 |zero=>intros;rw [h0];rfl
 |succ n=>intros;rw [hs,Fx.jn_succ];exact B _
theorem aL {F:Fx S} {κ:Out UU→Option S} {i:Nat} {κs:List (St UU→Option S)} {α0 α1:Type} {mk:α0→α1→St UU} {l:Nat→α0→α1→Option S} (b:(α0→α1→Option S)→α0→α1→Option S) (h0:l 0=fun x0 x1=> .none) (hs: ∀n,l (n+1)=b (l n)) (B: ∀ (r:St UU→Option S) x0 x1,F.st κ i κs r (mk x0 x1)=b (fun x0 x1=>r (mk x0 x1)) x0 x1): ∀ (n:Nat) x0 x1,F.lp κ i κs n (mk x0 x1)=l n x0 x1:=by
 intro n
 induction n with
 |zero=>intros;rw [h0];rfl
 |succ n ih=>
  intros
  rw [hs,Fx.lp_succ,B]
  exact congrArg (fun g=>b g _ _) (funext fun x0=>funext fun x1=>ih x0 x1)
theorem Lb {F:Fx S} {κ:Out UU→Option S} {i:Nat} {κs:List (St UU→Option S)} {α0 α1:Type} {mk:α0→α1→St UU} {l:Nat→α0→α1→Option S} (b:α0→α1→Option S) (h0:l 0=fun x0 x1=> .none) (hs: ∀n,l (n+1)=b) (B: ∀x0 x1,F.sj κ i κs (mk x0 x1)=b x0 x1): ∀ (n:Nat) x0 x1,F.jn κ i κs n (mk x0 x1)=l n x0 x1:=by
 intro n
 cases n with
 |zero=>intros;rw [h0];rfl
 |succ n=>intros;rw [hs,Fx.jn_succ];exact B _ _
theorem eW {F:Fx S} {κ:Out UU→Option S} {i:Nat} {κs:List (St UU→Option S)} {α0 α1 α2:Type} {mk:α0→α1→α2→St UU} {l:Nat→α0→α1→α2→Option S} (b:(α0→α1→α2→Option S)→α0→α1→α2→Option S) (h0:l 0=fun x0 x1 x2=> .none) (hs: ∀n,l (n+1)=b (l n)) (B: ∀ (r:St UU→Option S) x0 x1 x2,F.st κ i κs r (mk x0 x1 x2)=b (fun x0 x1 x2=>r (mk x0 x1 x2)) x0 x1 x2): ∀ (n:Nat) x0 x1 x2,F.lp κ i κs n (mk x0 x1 x2)=l n x0 x1 x2:=by
 intro n
 induction n with
 |zero=>intros;rw [h0];rfl
 |succ n ih=>
  intros
  rw [hs,Fx.lp_succ,B]
  exact congrArg (fun g=>b g _ _ _) (funext fun x0=>funext fun x1=>funext fun x2=>ih x0 x1 x2)
end
end Go.Proofs.YtfkkpkhfjpaafaaGreatDoor
namespace Go.Proofs.YtfkkpkhfjpaafaaGreatDoor
open Go PI
set_option linter.unusedVariables false
set_option maxRecDepth 100000
noncomputable def wG:Side UU:=⟨8,fun _=>[],fun _=>false,.none,fun _=>false⟩
noncomputable def AE {S:Type}:Oracle UU S:=fun _ _ _ _=> .none
theorem c1 {S:Type} (κ:Out UU→Option S):rC VV wG AE (fun _=> .none) 5 false [] Tryz.f48 [.sl (U:=UU) ET.C [] .void] [] κ=κ (.ret (bZ [] .none) []):=by kernel_rfl
theorem c2 {S:Type} (l:List Cl) (κ:Out UU→Option S):rC VV wG AE (fun _=> .none) 5 false [] Tryz.f48 [.sl (U:=UU) ET.C l .sure] [] κ=Option.bind (aw 1099511627776 0 l.length) fun _=>κ (.ret (bZ l .none) []):=by kernel_rfl
theorem ahy {S:Type} (o:Obj):(AE (S:=S)).Tells (ci (LL o)):=fun _ _ _ _ _ h=>by cases h
theorem JC (o:Obj) {args:List PU} (hl:args.length=1) {out:Out UU} (h:rC VV wG AE (fun _=> .none) 5 false [] Tryz.f48 args [] some=some out):ci (LL o) 48 args [] out:=by
 obtain ⟨out',h1,h2⟩:=QJ Ax (Ad o) (S:=wG) rfl rfl (ahy o) (f:=48) Tryz.func48 (by kernel_rfl) rfl rfl (by decide) (by rw [hl];decide) h
 injection h1 with h1
 exact h1▸h2
theorem KS {X:Link VV Tryz.prog} {w:World} {vs:Array Value} {N0:aN} {ν:Nat→Nat} {δ:Nat→Option Nat} {p q:PU} (h:Given X w vs N0 ν δ [p] [])
  (hr:RepG X w (NB N0 0 ν δ) (gB UU 0 ν) (vs.getD 0 undef) (δ 0) p→RepG X w (NB N0 0 ν δ) (gB UU 0 ν) (vs.getD 0 undef) (δ 0) q):Given X w vs N0 ν δ [q] []:=
 {h with
  args:=fun j r hj=>by
   cases j with
   |zero=>
    injection hj with hj
    subst hj
    exact hr (h.args 0 p rfl)
   |succ j=>simp at hj}
theorem Z5 (o:Obj) (l:List Cl) {u:Unit} (hroom:aw 1099511627776 0 l.length=some u):ci (LL o) 48 [bZ l .none] [] (.ret (bZ l .none) []):=by
 refine ⟨⟨Tryz.f48,Tryz.func48,by kernel_rfl,rfl⟩,fun w vs N0 ν δ hg=> ?_⟩
 have h0:Rep (LL o) w (NB N0 0 ν δ) (gB UU 0 ν) (vs.getD 0 undef) (bZ l .none):=hg.args 0 _ rfl
 generalize hv:vs.getD 0 undef=v at h0
 cases h0 with
 |sl A n c _ _ _ val hl hc _ h1 h2=>
 cases A with
 |none=>
  have hl0:l=[]:=by
   cases l with
   |nil=>rfl
   |cons x r=>
    obtain ⟨a,ha,_⟩:=h1 0 x rfl 0 _ rfl
    cases ha
  subst hl0
  exact (JC o (args:=[bZ [] .void]) rfl (c1 some)).2 w vs N0 ν δ (KS hg fun _=>by
   rw [hv];exact Rep.sl (X:=LL o) none n c ET.C (show List Cl from []) .void val hl hc rfl h1 h2)
 |some a=>
  refine (JC o (args:=[bZ l .sure]) rfl (out:= .ret (bZ l .none) []) ((c2 l some).trans (by rw [hroom];rfl))).2 w vs N0 ν δ (KS hg fun _=> ?_)
  rw [hv]
  exact Rep.sl (X:=LL o) (some a) n c ET.C l .sure val hl hc (fun h=>by cases h) h1 h2
theorem akS {S:Type} (o:Obj) (ho:ai o) (vs:List PU) (bs:List (Box UU)) (κ:Out UU→Option S) (x:S) (h:G2 vs bs κ=some x): ∃out,ci (LL o) acO vs bs out∧κ out=some x:=by
 unfold G2 at h
 split at h
 case h_2=>cases h
 rename_i κ y
 unfold rj at h
 obtain ⟨u,hr,h⟩:=Option.bind_eq_some_iff.1 h
 exact ⟨_,Z5 o y hr,h⟩
end Go.Proofs.YtfkkpkhfjpaafaaGreatDoor
namespace Go.Proofs.YtfkkpkhfjpaafaaGreatDoor
open Go PI
set_option linter.unusedVariables false
set_option maxRecDepth 100000
noncomputable section
noncomputable def pW:Cs:=cc cT (cc cI cn)
noncomputable def dV:Cs:=cc cT cn
noncomputable def Ag:Cs:=cc cI (cc lT cn)
noncomputable def Lh:Cs:=cc cI (cc cI cn)
noncomputable def Ah:Cs:=cc cT (cc cI (cc cI (cc (cp 0) cn)))
noncomputable def cu:Bs:=xI xn
noncomputable def kX6:Cs:=cc cT (cc (cf 115 cn (cc (cp 0) cn)) cn)
noncomputable def kX7:Cs:=cc cT (cc (cf 117 cn (cc (cp 0) cn)) cn)
noncomputable def Ux:Bs:=xc (cc (cf 116 cn (cc (cp 1) (cc (cp 0) cn))) cn) (xI xn)
noncomputable def kX9:Cs:=cc cT (cc (cp 0) (cc (cp 1) cn))
noncomputable def als:Bs:=xI (xc (cc (cf 116 cn (cc (cp 0) (cc (cp 1) cn))) cn) xn)
noncomputable def fU:Cs:=cc cI cn
noncomputable def Ld:Cs:=cc cs cn
noncomputable def uG:Cs:=cc cU cn
noncomputable def ny:Cs:=cc cC cn
noncomputable def uH:Cs:=cc cC (cc cC cn)
noncomputable def EU:Cs:=cc cC (cc (cp 0) cn)
noncomputable def wC:Bs:=xC xn
noncomputable def Le:Cs:=cc lC (cc (cf 168 cn (cc (cp 0) cn)) cn)
noncomputable def alt:Bs:=xc (cc lC cn) xn
noncomputable def eo:Cs:=cc lC cn
noncomputable def jk:Cs:=cc lC (cc lC cn)
noncomputable def lS:Cs:=cc cU (cc cI cn)
noncomputable def EV:Cs:=cc lC (cc cI cn)
noncomputable def Lf:Cs:=cc lC (cc (cf 160 cn cn) cn)
noncomputable def amR:Cs:=cc cT (cc cI (cc cI cn))
noncomputable def Lg:Cs:=cc cT (cc cI (cc cI (cc cb cn)))
noncomputable def adA:Cs:=cc cT (cc cI (cc cI (cc (cp 0) (cc (cp 1) (cc (cp 2) cn)))))
noncomputable def Ut:Bs:=xI (xI (xc (cc cb cn) xn))
noncomputable def adB:Cs:=cc cT (cc (cf 72 cn (cc (cp 0) (cc (cp 1) (cc (cp 2) cn)))) cn)
noncomputable def EW:Cs:=cc lT cn
noncomputable def EX:Cs:=cc (cp 0) cn
noncomputable def adC:Cs:=cc lB cn
noncomputable def adD:Cs:=cc (cp 0) (cc cI cn)
noncomputable def adE:Cs:=cc lF cn
noncomputable def Li:Cs:=cc cU (cc cI (cc cI cn))
noncomputable def Lj:Cs:=cc cC (cc cI (cc cI cn))
noncomputable def adF:Cs:=cc hC (cc cC (cc (cp 0) (cc (cp 1) cn)))
noncomputable def B9:Bs:=xI (xI xn)
noncomputable def adG:Cs:=cc lC (cc hC (cc (cf 127 cn (cc (cp 0) (cc (cp 1) cn))) cn))
noncomputable def EY:Cs:=cc lC (cc cI (cc cI cn))
noncomputable def adH:Cs:=cc (cg (cc cI (cc cI cn))) (cc lC (cc cI cn))
noncomputable def adI:Cs:=cc (cg (cc cI (cc cI cn))) (cc cT (cc cI (cc cI cn)))
noncomputable def EZ:Cs:=cc (cp 0) (cc (cp 1) (cc (cp 2) cn))
noncomputable def Uu:Bs:=xI (xI (xT xn))
noncomputable def adJ:Cs:=cc cT (cc lI (cc (cf 97 cn (cc (cp 0) (cc (cp 1) (cc (cp 2) cn)))) cn))
noncomputable def E0:Cs:=cc (cp 0) (cc cT (cc cI (cc cI cn)))
noncomputable def Ai:Cs:=cc (cp 0) (cc cT cn)
noncomputable def adK:Cs:=cc (cp 0) (cc lC cn)
noncomputable def B_:Bs:=xI (xT (xI xn))
noncomputable def adL:Cs:=cc cT (cc lI (cc (cf 91 cn (cc (cp 0) (cc (cp 1) (cc (cp 2) cn)))) cn))
noncomputable def E1:Cs:=cc cT (cc cI (cc lC cn))
noncomputable def Lk:Cs:=cc (cf 221 cn cn) (cc (cp 0) (cc (cp 1) cn))
noncomputable def wD:Bs:=xI (xc (cc lC cn) xn)
noncomputable def adM:Cs:=cc (cf 222 cn cn) (cc (cp 0) (cc (cp 1) cn))
noncomputable def adN:Cs:=cc cI (cc lC cn)
noncomputable def adO:Cs:=cc lC (cc (cf 295 cn cn) cn)
noncomputable def adP:Cs:=cc lC (cc (cf 296 cn (cc (cp 0) cn)) cn)
noncomputable def Ll:Cs:=cc lC (cc cC cn)
noncomputable def adQ:Cs:=cc lC (cc lC (cc (cf 292 cn cn) cn))
noncomputable def Aj:Cs:=cc lC (cc cI (cc lC cn))
noncomputable def E2:Cs:=cc lC (cc cI (cc (cp 0) (cc (cp 1) (cc (cp 2) cn))))
noncomputable def alu:Bs:=xI (xc (cc lC cn) (xc (cc (cf 222 cn cn) cn) xn))
noncomputable def adS:Cs:=cc lC (cc cC (cc (cp 0) (cc (cp 1) cn)))
noncomputable def adT:Cs:=cc lC (cc lC (cc (cf 261 cn (cc (cp 0) (cc (cp 1) cn))) cn))
noncomputable def Uv:Bs:=xI (xc (cc lC cn) (xc (cc (cf 221 cn cn) cn) xn))
noncomputable def E3:Cs:=cc (cg (cc (cf 218 cn (cc (cp 0) (cc (cp 1) (cc (cp 2) cn)))) (cc (cf 218 cn (cc (cp 0) (cc (cp 1) (cc (cp 3) cn)))) cn))) (cc cT (cc cI cn))
noncomputable def Je:Bs:=xI (xc (cc lC cn) (xc (cc (cf 221 cn cn) cn) (xc (cc (cf 222 cn cn) cn) xn)))
noncomputable def Lm:Cs:=cc cI (cc (cp 0) cn)
noncomputable def alv:Bs:=xT xn
noncomputable def Ln:Cs:=cc (cg (cc (cf 218 cn (cc (cp 0) (cc (cp 1) (cc (cp 2) cn)))) (cc (cf 218 cn (cc (cp 0) (cc (cp 1) (cc (cp 3) cn)))) cn))) (cc lT (cc cI (cc (cf 226 cn (cc (cp 4) cn)) cn)))
noncomputable def Uw:Bs:=xI (xc (cc lC cn) (xc (cc (cf 221 cn cn) cn) (xc (cc (cf 222 cn cn) cn) (xI xn))))
noncomputable def adV:Cs:=cc (cg (cc (cf 218 cn (cc (cp 0) (cc (cp 1) (cc (cp 2) cn)))) (cc (cf 218 cn (cc (cp 0) (cc (cp 1) (cc (cp 3) cn)))) cn))) (cc lT (cc cI (cc (cf 225 cn (cc (cp 4) cn)) cn)))
noncomputable def alw:Bs:=xI (xc (cc lC cn) (xc (cc (cf 221 cn cn) cn) (xc (cc (cf 222 cn cn) cn) (xT xn))))
noncomputable def adW:Cs:=cc lC (cc cI (cc (cp 0) cn))
noncomputable def Lo:Cs:=cc (cg (cc (cf 227 cn (cc (cp 0) cn)) (cc (cf 227 cn (cc (cp 0) cn)) cn))) (cc cT (cc cI cn))
noncomputable def Lp:Cs:=cc (cg (cc (cf 227 cn (cc (cp 0) cn)) (cc (cf 227 cn (cc (cp 0) cn)) cn))) (cc lT (cc cI (cc (cf 226 cn (cc (cp 1) cn)) cn)))
noncomputable def adX:Cs:=cc (cg (cc (cf 227 cn (cc (cp 0) cn)) (cc (cf 227 cn (cc (cp 0) cn)) cn))) (cc lT (cc cI (cc (cf 225 cn (cc (cp 1) cn)) cn)))
noncomputable def alx:Bs:=xI (xT xn)
noncomputable def Lq:Cs:=cc (cp 0) (cc cT (cc lC cn))
noncomputable def pX:Cs:=cc cT (cc cT (cc lB cn))
noncomputable def Lr:Cs:=cc (cp 0) (cc cT (cc cI cn))
noncomputable def Ls:Cs:=cc (cp 0) (cc cT (cc cT (cc lB cn)))
noncomputable def adY:Cs:=cc cT (cc lI (cc (cf 89 cn (cc (cp 0) (cc (cp 1) (cc (cp 2) cn)))) cn))
noncomputable def adZ:Cs:=cc cT (cc (cf 143 cn (cc (cp 0) cn)) cn)
noncomputable def Lt:Cs:=cc cT (cc cI (cc cT (cc cI (cc cI cn))))
noncomputable def ad0:Cs:=cc cT (cc (cf 145 cn (cc (cp 0) cn)) cn)
noncomputable def Lu:Cs:=cc cT (cc cI (cc cT cn))
noncomputable def ad1:Cs:=cc (cp 0) (cc cT (cc cT cn))
noncomputable def ad2:Cs:=cc cT (cc cI (cc cT (cc (cp 0) (cc (cp 1) (cc (cp 2) cn)))))
noncomputable def aly:Bs:=xT (xI (xc (cc (cp 3) cn) (xI xn)))
noncomputable def ad4:Cs:=cc lC (cc lT cn)
noncomputable def ad5:Cs:=cc cI (cc lC (cc lT cn))
noncomputable def ad6:Cs:=cc (cp 0) (cc lC (cc cI cn))
noncomputable def ad7:Cs:=cc cI (cc lB (cc lT cn))
noncomputable def Lv:Cs:=cc cT (cc cT cn)
noncomputable def ad8:Cs:=cc lT (cc lT cn)
noncomputable def aE {S:Type} (κ:Out UU→Option S):Int→Option S:=fun r=>κ (.ret (iI r) [])
noncomputable def aA {S:Type} (κ:Out UU→Option S):Bool→Option S:=fun r=>κ (.ret (.bool r) [])
noncomputable def F9 {S:Type} (κ:Out UU→Option S):Int×Int×ByteArray×List Tm→Option S:=fun r=>κ (.ret (.agg [(iI r.1),(iI r.2.1),(.str r.2.2.1),(bZ [] .nil),(sT r.2.2.2),(dN [] .nil)]) [])
noncomputable def kT {S:Type} (κ:Out UU→Option S):Int×Int→Option S:=fun r=>κ (.ret (.tuple [(iI r.1),(iI r.2)]) [])
noncomputable def eJ {S:Type} (c0:Int) (κ:Out UU→Option S):Bool→Option S:=fun r=>κ (.ret (.bool r) [bI c0])
noncomputable def gf {S:Type} (κ:Out UU→Option S):Bool×Int→Option S:=fun r=>κ (.ret (.bool r.1) [.cells [(.func 116 [] [(pt 1),(pt 0)])],bI r.2])
noncomputable def qX6 {S:Type} (κ:Out UU→Option S):Bool×Int→Option S:=fun r=>κ (.ret (.bool r.1) [bI r.2,.cells [(.func 116 [] [(pt 0),(pt 1)])]])
noncomputable def Oa {S:Type} (κ:Out UU→Option S):Cl→Option S:=fun r=>κ (.ret (aC r) [])
noncomputable def Oc {S:Type} (c0:Cl) (κ:Out UU→Option S):Bool→Option S:=fun r=>κ (.ret (.bool r) [bC c0])
noncomputable def A1 {S:Type} (c0:Cl) (κ:Out UU→Option S):Int→Option S:=fun r=>κ (.ret (iI r) [bC c0])
noncomputable def ahX {S:Type} (c0:List Cl) (κ:Out UU→Option S):Bool→Option S:=fun r=>κ (.ret (.bool r) [.cells [(sC c0)]])
noncomputable def az {S:Type} (κ:Out UU→Option S):List Cl×Int→Option S:=fun r=>κ (.ret (.tuple [(sC r.1),(iI r.2)]) [])
noncomputable def b_ {S:Type} (κ:Out UU→Option S):Int→Option S:=fun r=>κ (.ret (iU r) [])
noncomputable def gc {S:Type} (c0 c1:Int) (c2:Bool) (κ:Out UU→Option S):Bool→Option S:=fun r=>κ (.ret (.bool r) [bI c0,bI c1,.cells [(.bool c2)]])
noncomputable def aF {S:Type} (κ:Out UU→Option S):Tm→Option S:=fun r=>κ (.ret (aT r) [])
noncomputable def AN {S:Type} (κ:Out UU→Option S):List Tm→Option S:=fun r=>κ (.ret (sT r) [])
noncomputable def N7 {S:Type} (κ:Out UU→Option S):Int×Int×ByteArray×List Tm×List (Br Tm)→Option S:=fun r=>κ (.ret (.agg [(iI r.1),(iI r.2.1),(.str r.2.2.1),(bZ [] .nil),(sT r.2.2.2.1),(sB r.2.2.2.2)]) [])
noncomputable def ahY {S:Type} (κ:Out UU→Option S):Int→Option S:=fun r=>κ (.ret (.tuple []) [bI r])
noncomputable def AO {S:Type} (κ:Out UU→Option S):Int→Option S:=fun r=>κ (.ret (pt 0) [bI r])
noncomputable def ahZ {S:Type} (κ:Out UU→Option S):List Cl→Option S:=fun r=>κ (.ret (Ev r) [])
noncomputable def vA {S:Type} (κ:Out UU→Option S):Int×Int→Option S:=fun r=>κ (.ret (.tuple [(iU r.1),(iI r.2)]) [])
noncomputable def N8 {S:Type} (κ:Out UU→Option S):Cl×Int→Option S:=fun r=>κ (.ret (.tuple [(aC r.1),(iI r.2)]) [])
noncomputable def ah0 {S:Type} (c0 c1:Int) (κ:Out UU→Option S):List Cl×Int→Option S:=fun r=>κ (.ret (.tuple [(Ev r.1),(iI r.2)]) [bI c0,bI c1])
noncomputable def AP {S:Type} (c0 c1:Int) (κ:Out UU→Option S):List Cl×Int→Option S:=fun r=>κ (.ret (.tuple [(sC r.1),(iI r.2)]) [bI c0,bI c1])
noncomputable def ah1 {S:Type} (κ:Out UU→Option S):Pan Int (List Cl)→Option S:=fun r=>Pan.elim r (fun r=>κ (.ret (sC r) [])) (fun e=>κ (.panic (.iface 30 (iI e)) []))
noncomputable def ah {S:Type} (κ:Out UU→Option S):Pan Int Tm→Option S:=fun r=>Pan.elim r (fun r=>κ (.ret (aT r) [])) (fun e=>κ (.panic (.iface 30 (iI e)) []))
noncomputable def ah2 {S:Type} (c0 c1:Int) (c2:Tm) (κ:Out UU→Option S):Pan Int Tm→Option S:=fun r=>Pan.elim r (fun r=>κ (.ret (aT r) [bI c0,bI c1,bT c2])) (fun e=>κ (.panic (.iface 30 (iI e)) [bI c0,bI c1,bT c2]))
noncomputable def AQ {S:Type} (c0 c1:Int) (c2:Tm) (κ:Out UU→Option S):Tm×Int→Option S:=fun r=>κ (.ret (.tuple [(aT r.1),(iI r.2)]) [bI c0,bI c1,bT c2])
noncomputable def cM {S:Type} (κ:Out UU→Option S):Tm×Int→Option S:=fun r=>κ (.ret (.tuple [(aT r.1),(iI r.2)]) [])
noncomputable def gR {S:Type} (κ:Out UU→Option S):Tm×Int→Option S:=fun r=>κ (.ret (aT r.1) [bI r.2])
noncomputable def ah3 {S:Type} (κ:Out UU→Option S):Tm×Int×Int→Option S:=fun r=>κ (.ret (.tuple [(aT r.1),(iI r.2.1)]) [bI r.2.2])
noncomputable def N9 {S:Type} (κ:Out UU→Option S):List Cl×Int→Option S:=fun r=>κ (.ret (sC r.1) [bI r.2])
noncomputable def N_ {S:Type} (c0:Int) (c1:Tm) (c2:Int) (κ:Out UU→Option S):Pan Int Tm→Option S:=fun r=>Pan.elim r (fun r=>κ (.ret (aT r) [bI c0,bT c1,bI c2])) (fun e=>κ (.panic (.iface 30 (iI e)) [bI c0,bT c1,bI c2]))
noncomputable def mt {S:Type} (c0:Int) (c1:Tm) (c2:Int) (κ:Out UU→Option S):Tm×Int→Option S:=fun r=>κ (.ret (.tuple [(aT r.1),(iI r.2)]) [bI c0,bT c1,bI c2])
noncomputable def ah4 {S:Type} (c0:Int) (c1:List Cl) (κ:Out UU→Option S):Unit→Option S:=fun r=>κ (.ret (.func 218 [] [(pt 0),(pt 1),(pt 2)]) [bI c0,.cells [(sC c1)],.cells [(.func 221 [] [])]])
noncomputable def ah5 {S:Type} (c0:Int) (c1:List Cl) (κ:Out UU→Option S):Unit→Option S:=fun r=>κ (.ret (.func 218 [] [(pt 0),(pt 1),(pt 2)]) [bI c0,.cells [(sC c1)],.cells [(.func 222 [] [])]])
noncomputable def ah6 {S:Type} (κ:Out UU→Option S):Int×List Cl→Option S:=fun r=>κ (.ret (.agg [(.func 218 [] [(pt 0),(pt 1),(pt 2)]),(.func 218 [] [(pt 0),(pt 1),(pt 3)])]) [bI r.1,.cells [(sC r.2)],.cells [(.func 221 [] [])],.cells [(.func 222 [] [])]])
noncomputable def fB {S:Type} (κ:Out UU→Option S):List Cl→Option S:=fun r=>κ (.ret (sC r) [])
noncomputable def ah7 {S:Type} (κ:Out UU→Option S):Cl×Bool→Option S:=fun r=>κ (.ret (.tuple [(aC r.1),(.bool r.2)]) [])
noncomputable def ah8 {S:Type} (c0:Cl) (κ:Out UU→Option S):Cl×Bool→Option S:=fun r=>κ (.ret (.tuple [(aC r.1),(.bool r.2)]) [bC c0])
noncomputable def AR {S:Type} (c0:Cl) (κ:Out UU→Option S):List Cl→Option S:=fun r=>κ (.ret (sC r) [bC c0])
noncomputable def ah9 {S:Type} (c0:Int) (c1:List Cl) (κ:Out UU→Option S):List Cl×Int→Option S:=fun r=>κ (.ret (.tuple [(sC r.1),(iI r.2)]) [bI c0,.cells [(sC c1)],.cells [(.func 222 [] [])]])
noncomputable def vB {S:Type} (c0:Int) (c1:List Cl) (κ:Out UU→Option S):List Cl×Int→Option S:=fun r=>κ (.ret (.tuple [(sC r.1),(iI r.2)]) [bI c0,.cells [(sC c1)]])
noncomputable def ah_ {S:Type} (c0:Int) (c1:List Cl) (κ:Out UU→Option S):List Cl×Int→Option S:=fun r=>κ (.ret (.tuple [(sC r.1),(iI r.2)]) [bI c0,.cells [(sC c1)],.cells [(.func 221 [] [])]])
noncomputable def aia {S:Type} (c0:Int) (c1:List Cl) (κ:Out UU→Option S):List Cl×Int→Option S:=fun r=>κ (.ret (.tuple [(sC r.1),(iI r.2)]) [bI c0,.cells [(sC c1)],.cells [(.func 221 [] [])],.cells [(.func 222 [] [])]])
noncomputable def aib {S:Type} (c0:Tm) (κ:Out UU→Option S):Int→Option S:=fun r=>κ (.ret (iI r) [bT c0])
noncomputable def aic {S:Type} (c0:Int) (κ:Out UU→Option S):Int→Option S:=fun r=>κ (.ret (iI r) [bI c0])
noncomputable def AT {S:Type} (c0:Int) (c1:List Cl) (κ:Out UU→Option S):Tm×Int→Option S:=fun r=>κ (.ret (.tuple [(aT r.1),(iI r.2)]) [bI c0,.cells [(sC c1)],.cells [(.func 221 [] [])],.cells [(.func 222 [] [])]])
noncomputable def AU {S:Type} (c0:Int) (c1:List Cl) (c4:Int) (κ:Out UU→Option S):List Tm×Int→Option S:=fun r=>κ (.ret (.tuple [(sT r.1),(iI r.2)]) [bI c0,.cells [(sC c1)],.cells [(.func 221 [] [])],.cells [(.func 222 [] [])],bI c4])
noncomputable def AV {S:Type} (c0:Int) (c1:List Cl) (c4:Tm) (κ:Out UU→Option S):List Tm×Int→Option S:=fun r=>κ (.ret (.tuple [(sT r.1),(iI r.2)]) [bI c0,.cells [(sC c1)],.cells [(.func 221 [] [])],.cells [(.func 222 [] [])],bT c4])
noncomputable def aid {S:Type} (κ:Out UU→Option S):Int→Option S:=fun r=>κ (.ret (.agg [(.func 227 [] [(pt 0)]),(.func 227 [] [(pt 0)])]) [bI r])
noncomputable def vC {S:Type} (c0:Int) (κ:Out UU→Option S):List Cl×Int→Option S:=fun r=>κ (.ret (.tuple [(sC r.1),(iI r.2)]) [bI c0])
noncomputable def AW {S:Type} (c0:Int) (κ:Out UU→Option S):Tm×Int→Option S:=fun r=>κ (.ret (.tuple [(aT r.1),(iI r.2)]) [bI c0])
noncomputable def AX {S:Type} (c0 c1:Int) (κ:Out UU→Option S):List Tm×Int→Option S:=fun r=>κ (.ret (.tuple [(sT r.1),(iI r.2)]) [bI c0,bI c1])
noncomputable def AY {S:Type} (c0:Int) (c1:Tm) (κ:Out UU→Option S):List Tm×Int→Option S:=fun r=>κ (.ret (.tuple [(sT r.1),(iI r.2)]) [bI c0,bT c1])
noncomputable def cO {S:Type} (κ:Out UU→Option S):Bool×Int→Option S:=fun r=>κ (.ret (.bool r.1) [bI r.2])
noncomputable def AZ {S:Type} (c0:Tm) (c1:Int) (κ:Out UU→Option S):Int×Int×ByteArray×List Tm×Int→Option S:=fun r=>κ (.ret (.agg [(iI r.1),(iI r.2.1),(.str r.2.2.1),(bZ [] .nil),(sT r.2.2.2.1),(dN [] .nil)]) [bT c0,bI c1,.cells [(pt 3)],bI r.2.2.2.2])
noncomputable def aie {S:Type} (κ:Out UU→Option S):(Br Tm)→Option S:=fun r=>κ (.ret (aB r) [])
noncomputable def aif {S:Type} (κ:Out UU→Option S):Tm×Bool×Int×Int→Option S:=fun r=>κ (.ret (.tuple [(aT r.1),(.bool r.2.1),(iI r.2.2.1)]) [bI r.2.2.2])
noncomputable def fC {S:Type} (κ:Out UU→Option S):Tm×Bool×Int→Option S:=fun r=>κ (.ret (.tuple [(aT r.1),(.bool r.2.1),(iI r.2.2)]) [])
noncomputable def aih {S:Type} (κ:Out UU→Option S):Int×Int×ByteArray×List Cl×List Tm→Option S:=fun r=>κ (.ret (.agg [(iI r.1),(iI r.2.1),(.str r.2.2.1),(sC r.2.2.2.1),(sT r.2.2.2.2),(dN [] .nil)]) [])
end
end Go.Proofs.YtfkkpkhfjpaafaaGreatDoor
namespace Go.Proofs.YtfkkpkhfjpaafaaGreatDoor
open Go PI
set_option linter.unusedVariables false
set_option maxRecDepth 100000
noncomputable section
def F_ {S:Type} (hd:gY S):Rw S:=aj pW xn fun t most κ=>hd t most (aE κ)
def mH {S:Type} (hd:gY S) (k:Nat):Fx S:=fp 119 [(19,F_ hd)] [(5,aS [1,2,5,6] [(2,6)],ap 6 23),(9,aS [1,2,5,7] [(2,6)],ap 7 47),(15,aS [1,2,5,7,8] [(2,6)],ap 15 14639)] k Tryz.f19 0
def Fq (t:Tm) (most:Int) (v5 i6:Int):St UU:=⟨[(1,(iI most)),(2,(pt 2)),(5,(iI v5)),(6,(iI i6))],[(2,bT t)],[],[]⟩
def uT (t:Tm) (most:Int) (v5' i7:Int):St UU:=⟨[(1,(iI most)),(2,(pt 2)),(5,(iI v5')),(7,(iI i7))],[(2,bT t)],[],[]⟩
def LQ (t:Tm) (most i7:Int) (v5'' v8:Int):St UU:=⟨[(1,(iI most)),(2,(pt 2)),(5,(iI v5'')),(7,(iI i7)),(8,(iI v8))],[(2,bT t)],[],[]⟩
section
variable {S:Type} (hd:gY S) (k:Nat) (t:Tm) (most:Int) (κ:Out UU→Option S)
theorem W4 (i7 κ1): ∀n v5'' v8,(mH hd k).lp κ 15 [κ1] n (LQ t most i7 v5'' v8)=kA hd k (aE κ) (fun v5' i7=>κ1 (uT t most v5' i7)) t most i7 n v5'' v8:=aL (xL hd k (aE κ) t most i7 (fun v5' i7=>κ1 (uT t most v5' i7))) rfl (fun _=>rfl) fun r v5'' v8=>by kernel_rfl
theorem WZ: ∀n v5' i7,(mH hd k).lp κ 9 [] n (uT t most v5' i7)=jl hd k (aE κ) t most n v5' i7:=aL (fun own=>sS hd k (aE κ) t most (fun i7 v5'' v8=>kA hd k (aE κ) own t most i7 k v5'' v8) own) rfl (fun _=>rfl) fun r v5' i7=>Eq.trans (b:=sS hd k (aE κ) t most (fun i7 v5'' v8=>(mH hd k).lp κ 15 [r] k (LQ t most i7 v5'' v8)) (fun v5' i7=>r (uT t most v5' i7)) v5' i7) (by kernel_rfl) (by simp only [W4])
theorem WY: ∀n v5 i6,(mH hd k).lp κ 5 [] n (Fq t most v5 i6)=nQ hd k (aE κ) t most n v5 i6:=aL (fun own=>sR hd k (aE κ) t most (fun v5' i7=>jl hd k (aE κ) t most k v5' i7) own) rfl (fun _=>rfl) fun r v5 i6=>Eq.trans (b:=sR hd k (aE κ) t most (fun v5' i7=>(mH hd k).lp κ 9 [] k (uT t most v5' i7)) (fun v5 i6=>r (Fq t most v5 i6)) v5 i6) (by kernel_rfl) (by simp only [WZ])
end
theorem KT {S:Type} (o:Obj) (ho:ai o): ∀k:Nat,Tl o 19 (F_ (gE k:gY S))
 |0=>dz fun t most κ x h=>by cases h
 |k+1=>ak (mH (gE k) k) ⟨KT o ho k,trivial⟩ Tryz.func19 (by kernel_rfl) fun t most κ x h=>Eq.trans (b:=Io (gE k) k (aE κ) (fun v5 i6=>(mH (gE k) k).lp κ 5 [] k (Fq t most v5 i6)) t most) (by kernel_rfl) (Eq.trans (by simp only [WY];rfl) h)
def Od {S:Type} (k:Nat):Rw S:=aj dV xn fun t κ=>aa k (DR k t) (aA κ)
def UA {S:Type} (k:Nat):Fx S:=fp 6 [(19,F_ (gE k))] [] k Tryz.f6 0
theorem eX1 {S:Type} (o:Obj) (ho:ai o) (k:Nat):Tl o 6 (Od k:Rw S):=ak (UA k) ⟨KT o ho k,trivial⟩ Tryz.func6 (by kernel_rfl) fun t κ x h=>Eq.trans (by kernel_rfl) (al h)
def Pe {S:Type} (k:Nat):Rw S:=aj Ag xn fun kind kids κ=>aa k (al5 k kind kids) (F9 κ)
def VF {S:Type} (k:Nat):Fx S:=fx 8 (fun _=>[]) (fun _=>false) [] [] k Tryz.f20 true [] 0
theorem eX2 {S:Type} (o:Obj) (ho:ai o) (k:Nat):Tl o 20 (Pe k:Rw S):=ak (VF k) trivial Tryz.func20 (by kernel_rfl) fun kind kids κ x h=>Eq.trans (by kernel_rfl) (al h)
def jA {S:Type} (k:Nat):Rw S:=aj Lh xn fun kind kid κ=>aa k (gI k kind kid) (kT κ)
def V3 {S:Type} (k:Nat):Fx S:=fp 26 [] [] k Tryz.f36 0
theorem kc {S:Type} (o:Obj) (ho:ai o) (k:Nat):Tl o 36 (jA k:Rw S):=ak (V3 k) trivial Tryz.func36 (by kernel_rfl) fun kind kid κ x h=>Eq.trans (by kernel_rfl) (al h)
def vN {S:Type} (hd:du S):Rw S:=aj pW xn fun t left κ=>hd t left (aA κ)
def PN {S:Type} (hd:du S) (k:Nat):Rw S:=aj Ah cu fun a_k p p' c0 κ=>aa k (uk hd k a_k p p' c0) (eJ c0 κ)
def Wh {S:Type} (hd:du S) (k:Nat):Fx S:=fp 12 [(68,vN hd)] [] k Tryz.f115 1
theorem eX5 {S:Type} (o:Obj) (ho:ai o) (hd:du S) (Hd:Tl o 68 (vN hd)) (k:Nat):Tl o 115 (PN hd k:Rw S):=ak (Wh hd k) ⟨Hd,trivial⟩ Tryz.func115 (by kernel_rfl) fun a_k p p' c0 κ x h=>Eq.trans (by kernel_rfl) (al h)
def PX {S:Type} (hd:du S) (k:Nat):Rw S:=aj kX6 cu fun t c0 κ=>aa k (DX hd k t c0) (eJ c0 κ)
def mT {S:Type} (hd:du S) (k:Nat):Fx S:=fp 60 [(36,jA k),(115,PN hd k)] [(2,aS [1,2,15,16,17] [(2,6),(1000000,1)],ap 4 5),(12,aS [1,9,40,41,42] [(1000000,1)],ap 7 47),(15,aS [1,9,40,41,42,47,48,49] [(1000000,1)],ap 15 13103)] k Tryz.f71 1
def FJ (c0:Int) (t:Tm) (v17:Int):St UU:=⟨[(1,(.func 115 [] [(pt 1000000)])),(2,(pt 2)),(15,(sT t.kids)),(16,(.int .i64 (t.kids.length:Int))),(17,(iI v17))],[(2,bT t),(1000000,bI c0)],[],[]⟩
def vk (c0:Int) (t:Tm) (v42 more9:Int):St UU:=⟨[(1,(.func 115 [] [(pt 1000000)])),(9,(iI more9)),(40,(sB t.sys)),(41,(.int .i64 (t.sys.length:Int))),(42,(iI v42))],[(1000000,bI c0)],[],[]⟩
def Nl (c0:Int) (t:Tm) (v42:Int) (x4:(Br Tm)) (more9:Int) (v49:Int):St UU:=⟨[(1,(.func 115 [] [(pt 1000000)])),(9,(iI more9)),(40,(sB t.sys)),(41,(.int .i64 (t.sys.length:Int))),(42,(iI v42)),(47,(sT x4.kids)),(48,(.int .i64 (x4.kids.length:Int))),(49,(iI v49))],[(1000000,bI c0)],[],[]⟩
section
variable {S:Type} (hd:du S) (k:Nat) (t:Tm) (c0:Int) (κ:Out UU→Option S)
theorem Y8 (v42 x4 more9 κ1): ∀n v49,(mT hd k).lp κ 15 [κ1] n (Nl c0 t v42 x4 more9 v49)=anh hd k (eJ c0 κ) (fun v42 more9=>κ1 (vk c0 t v42 more9)) c0 t v42 x4 more9 n v49:=cF (yi hd k (eJ c0 κ) c0 t v42 x4 more9 (fun v42 more9=>κ1 (vk c0 t v42 more9))) rfl (fun _=>rfl) fun r v49=>by kernel_rfl
theorem Y7: ∀n v42 more9,(mT hd k).lp κ 12 [] n (vk c0 t v42 more9)=jp hd k (eJ c0 κ) c0 t n v42 more9:=aL (fun own=>tp hd k (eJ c0 κ) c0 t (fun v42 x4 more9 v49=>anh hd k (eJ c0 κ) own c0 t v42 x4 more9 k v49) own) rfl (fun _=>rfl) fun r v42 more9=>Eq.trans (b:=tp hd k (eJ c0 κ) c0 t (fun v42 x4 more9 v49=>(mT hd k).lp κ 15 [r] k (Nl c0 t v42 x4 more9 v49)) (fun v42 more9=>r (vk c0 t v42 more9)) v42 more9) (by kernel_rfl) (by simp only [Y8])
theorem Y6: ∀n v17,(mT hd k).lp κ 2 [] n (FJ c0 t v17)=qS hd k (eJ c0 κ) c0 t n v17:=cF (fun own=>tn hd k (eJ c0 κ) c0 t (fun v42 more9=>jp hd k (eJ c0 κ) c0 t k v42 more9) own) rfl (fun _=>rfl) fun r v17=>Eq.trans (b:=tn hd k (eJ c0 κ) c0 t (fun v42 more9=>(mT hd k).lp κ 12 [] k (vk c0 t v42 more9)) (fun v17=>r (FJ c0 t v17)) v17) (by kernel_rfl) (by simp only [Y7])
end
theorem eX6 {S:Type} (o:Obj) (ho:ai o) (hd:du S) (Hd:Tl o 68 (vN hd)) (k:Nat):Tl o 71 (PX hd k:Rw S):=ak (mT hd k) ⟨kc o ho k,eX5 o ho hd Hd k,trivial⟩ Tryz.func71 (by kernel_rfl) fun t c0 κ x h=>Eq.trans (b:=IV hd k (eJ c0 κ) (fun v17=>(mT hd k).lp κ 2 [] k (FJ c0 t v17)) t c0) (by kernel_rfl) (Eq.trans (by simp only [Y6];rfl) (al h))
def V_ {S:Type} (hd:du S) (k:Nat):Fx S:=fp 12 [(71,PX hd k)] [] k Tryz.f68 0
theorem K6 {S:Type} (o:Obj) (ho:ai o): ∀k:Nat,Tl o 68 (vN (jf k:du S))
 |0=>dz fun t left κ x h=>by cases h
 |k+1=>ak (V_ (jf k) k) ⟨eX6 o ho (jf k) (K6 o ho k) k,trivial⟩ Tryz.func68 (by kernel_rfl) fun t left κ x h=>Eq.trans (by kernel_rfl) h
def Bh {S:Type} (hd:dt S):Rw S:=aj kX7 Ux fun t c1 κ=>hd t c1 (gf κ)
def GR {S:Type} (hd:dt S) (k:Nat):Rw S:=aj kX9 als fun t c0 κ=>aa k (pB hd k t c0) (qX6 κ)
def WI {S:Type} (hd:dt S) (k:Nat):Fx S:=fp 14 [(71,Bh hd)] [] k Tryz.f116 2
theorem Kw {S:Type} (o:Obj) (ho:ai o) (hd:dt S) (Hd:Tl o 71 (Bh hd)) (k:Nat):Tl o 116 (GR hd k:Rw S):=ak (WI hd k) ⟨Hd,trivial⟩ Tryz.func116 (by kernel_rfl) fun t c0 κ x h=>Eq.trans (by kernel_rfl) (al h)
def Qg {S:Type} (hd:dt S) (k:Nat):Rw S:=aj Ah Ux fun a_k p p' c1 κ=>aa k (ul hd k a_k p p' c1) (gf κ)
def WO {S:Type} (hd:dt S) (k:Nat):Fx S:=fp 11 [(116,GR hd k)] [] k Tryz.f117 2
theorem eX9 {S:Type} (o:Obj) (ho:ai o) (hd:dt S) (Hd:Tl o 71 (Bh hd)) (k:Nat):Tl o 117 (Qg hd k:Rw S):=ak (WO hd k) ⟨Kw o ho hd Hd k,trivial⟩ Tryz.func117 (by kernel_rfl) fun a_k p p' c1 κ x h=>Eq.trans (by kernel_rfl) (al h)
def mU {S:Type} (hd:dt S) (k:Nat):Fx S:=fp 60 [(36,jA k),(117,Qg hd k)] [(2,aS [1,2,15,16,17] [(2,6),(1000000,1),(1000001,1)],ap 4 5),(12,aS [1,9,40,41,42] [(1000000,1),(1000001,1)],ap 7 47),(15,aS [1,9,40,41,42,47,48,49] [(1000000,1),(1000001,1)],ap 15 13103)] k Tryz.f71 2
def FK (t:Tm) (e1_0 v17:Int):St UU:=⟨[(1,(.func 117 [] [(pt 1000000)])),(2,(pt 2)),(15,(sT t.kids)),(16,(.int .i64 (t.kids.length:Int))),(17,(iI v17))],[(2,bT t),(1000000,.cells [(.func 116 [] [(pt 1000001),(pt 1000000)])]),(1000001,bI e1_0)],[],[]⟩
def vl (t:Tm) (e1_0' v42 more9:Int):St UU:=⟨[(1,(.func 117 [] [(pt 1000000)])),(9,(iI more9)),(40,(sB t.sys)),(41,(.int .i64 (t.sys.length:Int))),(42,(iI v42))],[(1000000,.cells [(.func 116 [] [(pt 1000001),(pt 1000000)])]),(1000001,bI e1_0')],[],[]⟩
def Nn (t:Tm) (v42:Int) (x4:(Br Tm)) (more9:Int) (e1_0'' v49:Int):St UU:=⟨[(1,(.func 117 [] [(pt 1000000)])),(9,(iI more9)),(40,(sB t.sys)),(41,(.int .i64 (t.sys.length:Int))),(42,(iI v42)),(47,(sT x4.kids)),(48,(.int .i64 (x4.kids.length:Int))),(49,(iI v49))],[(1000000,.cells [(.func 116 [] [(pt 1000001),(pt 1000000)])]),(1000001,bI e1_0'')],[],[]⟩
section
variable {S:Type} (hd:dt S) (k:Nat) (t:Tm) (c1:Int) (κ:Out UU→Option S)
theorem Zb (v42 x4 more9 κ1): ∀n e1_0'' v49,(mU hd k).lp κ 15 [κ1] n (Nn t v42 x4 more9 e1_0'' v49)=kL hd k (gf κ) (fun e1_0' v42 more9=>κ1 (vl t e1_0' v42 more9)) t v42 x4 more9 n e1_0'' v49:=aL (yg hd k (gf κ) t v42 x4 more9 (fun e1_0' v42 more9=>κ1 (vl t e1_0' v42 more9))) rfl (fun _=>rfl) fun r e1_0'' v49=>by kernel_rfl
theorem Za: ∀n e1_0' v42 more9,(mU hd k).lp κ 12 [] n (vl t e1_0' v42 more9)=iA hd k (gf κ) t n e1_0' v42 more9:=eW (fun own=>tj hd k (gf κ) t (fun v42 x4 more9 e1_0'' v49=>kL hd k (gf κ) own t v42 x4 more9 k e1_0'' v49) own) rfl (fun _=>rfl) fun r e1_0' v42 more9=>Eq.trans (b:=tj hd k (gf κ) t (fun v42 x4 more9 e1_0'' v49=>(mU hd k).lp κ 15 [r] k (Nn t v42 x4 more9 e1_0'' v49)) (fun e1_0' v42 more9=>r (vl t e1_0' v42 more9)) e1_0' v42 more9) (by kernel_rfl) (by simp only [Zb])
theorem Y_: ∀n e1_0 v17,(mU hd k).lp κ 2 [] n (FK t e1_0 v17)=nY hd k (gf κ) t n e1_0 v17:=aL (fun own=>ti hd k (gf κ) t (fun e1_0' v42 more9=>iA hd k (gf κ) t k e1_0' v42 more9) own) rfl (fun _=>rfl) fun r e1_0 v17=>Eq.trans (b:=ti hd k (gf κ) t (fun e1_0' v42 more9=>(mU hd k).lp κ 12 [] k (vl t e1_0' v42 more9)) (fun e1_0 v17=>r (FK t e1_0 v17)) e1_0 v17) (by kernel_rfl) (by simp only [Za])
end
theorem K7 {S:Type} (o:Obj) (ho:ai o): ∀k:Nat,Tl o 71 (Bh (fg k:dt S))
 |0=>dz fun t c1 κ x h=>by cases h
 |k+1=>ak (mU (fg k) k) ⟨kc o ho k,eX9 o ho (fg k) (K7 o ho k) k,trivial⟩ Tryz.func71 (by kernel_rfl) fun t c1 κ x h=>Eq.trans (b:=IT (fg k) k (gf κ) (fun e1_0 v17=>(mU (fg k) k).lp κ 2 [] k (FK t e1_0 v17)) t c1) (by kernel_rfl) (Eq.trans (by simp only [Y_];rfl) h)
def Oe {S:Type} (k:Nat):Rw S:=aj pW xn fun t most κ=>aa k (zE k t most) (aA κ)
def UB {S:Type} (k:Nat):Fx S:=fp 10 [(116,GR (fg k) k)] [] k Tryz.f69 0
theorem aat {S:Type} (o:Obj) (ho:ai o) (k:Nat):Tl o 69 (Oe k:Rw S):=ak (UB k) ⟨Kw o ho (fg k) (K7 o ho k) k,trivial⟩ Tryz.func69 (by kernel_rfl) fun t most κ x h=>Eq.trans (by kernel_rfl) (al h)
def Ol {S:Type} (k:Nat):Rw S:=aj dV xn fun t κ=>aa k (zD k t) (aE κ)
def UI {S:Type} (k:Nat):Fx S:=fp 11 [(68,vN (jf k)),(69,Oe k)] [] k Tryz.f37 0
theorem aaA {S:Type} (o:Obj) (ho:ai o) (k:Nat):Tl o 37 (Ol k:Rw S):=ak (UI k) ⟨K6 o ho k,aat o ho k,trivial⟩ Tryz.func37 (by kernel_rfl) fun t κ x h=>Eq.trans (by kernel_rfl) (al h)
def Ov {S:Type} (k:Nat):Rw S:=aj fU xn fun kind κ=>aa k (zA k kind) (aE κ)
def UO {S:Type} (k:Nat):Fx S:=fp 38 [] [] k Tryz.f44 0
theorem aaH {S:Type} (o:Obj) (ho:ai o) (k:Nat):Tl o 44 (Ov k:Rw S):=ak (UO k) trivial Tryz.func44 (by kernel_rfl) fun kind κ x h=>Eq.trans (by kernel_rfl) (al h)
def OC {S:Type} (k:Nat):Rw S:=aj fU xn fun kind κ=>aa k (lJ k kind) (aE κ)
def UX {S:Type} (k:Nat):Fx S:=fp 10 [] [] k Tryz.f118 0
theorem aaO {S:Type} (o:Obj) (ho:ai o) (k:Nat):Tl o 118 (OC k:Rw S):=ak (UX k) trivial Tryz.func118 (by kernel_rfl) fun kind κ x h=>Eq.trans (by kernel_rfl) (al h)
def OM {S:Type} (k:Nat):Rw S:=aj Ld xn fun s κ=>aa k (zC k s) (aA κ)
def rU {S:Type} (k:Nat):Fx S:=fp 49 [] [(2,aS [0,7,8] [],ap 4 5),(1000006,aS [0,3,4,5,7,8] [],ap 12 3685)] k Tryz.f119 0
def uY (s:ByteArray) (v8:Int):St UU:=⟨[(0,(.str s)),(7,(.int .i64 (s.size:Int))),(8,(iI v8))],[],[],[]⟩
def Md (s:ByteArray) (v8:Int) (x1:UInt8) (letter5:Bool):St UU:=⟨[(0,(.str s)),(3,(iI v8)),(4,(.int .u8 (x1.toNat:Int))),(5,(.bool letter5)),(7,(.int .i64 (s.size:Int))),(8,(iI v8))],[],[],[]⟩
section
variable {S:Type} (k:Nat) (s:ByteArray) (κ:Out UU→Option S)
theorem Xx (v8 x1 κ0): ∀n letter5,(rU k).jn κ 1000006 [κ0] n (Md s v8 x1 letter5)=Aq k (aA κ) (fun v8=>κ0 (uY s v8)) s v8 x1 n letter5:=nx (Dk k (aA κ) s v8 x1 (fun v8=>κ0 (uY s v8))) rfl (fun _=>rfl) (fun letter5=>by kernel_rfl)
theorem Xw: ∀n v8,(rU k).lp κ 2 [] n (uY s v8)=n7 k (aA κ) s n v8:=cF (fun own=>tv k (aA κ) s (fun v8 x1 letter5=>Aq k (aA κ) own s v8 x1 k letter5) own) rfl (fun _=>rfl) fun r v8=>Eq.trans (b:=tv k (aA κ) s (fun v8 x1 letter5=>(rU k).jn κ 1000006 [r] k (Md s v8 x1 letter5)) (fun v8=>r (uY s v8)) v8) (by kernel_rfl) (by simp only [Xx])
end
theorem aaY {S:Type} (o:Obj) (ho:ai o) (k:Nat):Tl o 119 (OM k:Rw S):=ak (rU k) trivial Tryz.func119 (by kernel_rfl) fun s κ x h=>Eq.trans (b:=IY k (aA κ) (fun v8=>(rU k).lp κ 2 [] k (uY s v8)) s) (by kernel_rfl) (Eq.trans (by simp only [Xw];rfl) (al h))
def OU {S:Type} (k:Nat):Rw S:=aj uG xn fun s κ=>aa k (pm k s) (aA κ)
def Vb {S:Type} (k:Nat):Fx S:=fp 6 [] [] k Tryz.f229 0
theorem aa6 {S:Type} (o:Obj) (ho:ai o) (k:Nat):Tl o 229 (OU k:Rw S):=ak (Vb k) trivial Tryz.func229 (by kernel_rfl) fun s κ x h=>Eq.trans (by kernel_rfl) (al h)
def Gn {S:Type} (k:Nat):Rw S:=aj ny xn fun c κ=>aa k (tC k c) (aA κ)
def Vg {S:Type} (k:Nat):Fx S:=fp 11 [(229,OU k)] [] k Tryz.f165 0
theorem J7 {S:Type} (o:Obj) (ho:ai o) (k:Nat):Tl o 165 (Gn k:Rw S):=ak (Vg k) ⟨aa6 o ho k,trivial⟩ Tryz.func165 (by kernel_rfl) fun c κ x h=>Eq.trans (by kernel_rfl) (al h)
def A7 {S:Type} (k:Nat):Rw S:=aj uH xn fun a b κ=>aa k (pb k a b) (Oa κ)
def Vn {S:Type} (k:Nat):Fx S:=fp 16 [] [] k Tryz.f231 0
theorem Eb {S:Type} (o:Obj) (ho:ai o) (k:Nat):Tl o 231 (A7 k:Rw S):=ak (Vn k) trivial Tryz.func231 (by kernel_rfl) fun a b κ x h=>Eq.trans (by kernel_rfl) (al h)
def O5 {S:Type} (k:Nat):Rw S:=aj uH xn fun a b κ=>aa k (yA k a b) (aA κ)
def Vr {S:Type} (k:Nat):Fx S:=fp 10 [(231,A7 k)] [] k Tryz.f169 0
theorem abg {S:Type} (o:Obj) (ho:ai o) (k:Nat):Tl o 169 (O5 k:Rw S):=ak (Vr k) ⟨Eb o ho k,trivial⟩ Tryz.func169 (by kernel_rfl) fun a b κ x h=>Eq.trans (by kernel_rfl) (al h)
def O9 {S:Type} (k:Nat):Rw S:=aj EU wC fun d c0 κ=>aa k (yC k d c0) (Oc c0 κ)
def Vx {S:Type} (k:Nat):Fx S:=fp 12 [(169,O5 k)] [] k Tryz.f168 1
theorem abk {S:Type} (o:Obj) (ho:ai o) (k:Nat):Tl o 168 (O9 k:Rw S):=ak (Vx k) ⟨abg o ho k,trivial⟩ Tryz.func168 (by kernel_rfl) fun d c0 κ x h=>Eq.trans (by kernel_rfl) (al h)
def Pf {S:Type} (k:Nat):Rw S:=aj Le wC fun s c0 κ=>aa k (DV k s c0) (A1 c0 κ)
def CK {S:Type} (k:Nat):Fx S:=fp 19 [(168,O9 k)] [(2,aS [0,1,7,8] [(1000000,2)],ap 4 5)] k Tryz.f215 1
def MQ (c0:Cl) (s:List Cl) (v8:Int):St UU:=⟨[(0,(sC s)),(1,(.func 168 [] [(pt 1000000)])),(7,(.int .i64 (s.length:Int))),(8,(iI v8))],[(1000000,bC c0)],[],[]⟩
section
variable {S:Type} (k:Nat) (s:List Cl) (c0:Cl) (κ:Out UU→Option S)
theorem Yq: ∀n v8,(CK k).lp κ 2 [] n (MQ c0 s v8)=qO k (A1 c0 κ) c0 s n v8:=cF (yc k (A1 c0 κ) c0 s) rfl (fun _=>rfl) fun r v8=>by kernel_rfl
end
theorem abr {S:Type} (o:Obj) (ho:ai o) (k:Nat):Tl o 215 (Pf k:Rw S):=ak (CK k) ⟨abk o ho k,trivial⟩ Tryz.func215 (by kernel_rfl) fun s c0 κ x h=>Eq.trans (b:=IM k (A1 c0 κ) (fun v8=>(CK k).lp κ 2 [] k (MQ c0 s v8)) s c0) (by kernel_rfl) (Eq.trans (by simp only [Yq];rfl) (al h))
def Pp {S:Type} (k:Nat):Rw S:=aj Le wC fun s c0 κ=>aa k (DT k s c0) (Oc c0 κ)
def VK {S:Type} (k:Nat):Fx S:=fp 9 [(215,Pf k)] [] k Tryz.f159 1
theorem abB {S:Type} (o:Obj) (ho:ai o) (k:Nat):Tl o 159 (Pp k:Rw S):=ak (VK k) ⟨abr o ho k,trivial⟩ Tryz.func159 (by kernel_rfl) fun s c0 κ x h=>Eq.trans (by kernel_rfl) (al h)
def Pu {S:Type} (k:Nat):Rw S:=aj EU alt fun c c0 κ=>aa k (yB k c c0) (ahX c0 κ)
def VS {S:Type} (k:Nat):Fx S:=fp 7 [(159,Pp k)] [] k Tryz.f167 1
theorem abG {S:Type} (o:Obj) (ho:ai o) (k:Nat):Tl o 167 (Pu k:Rw S):=ak (VS k) ⟨abB o ho k,trivial⟩ Tryz.func167 (by kernel_rfl) fun c c0 κ x h=>Eq.trans (by kernel_rfl) (al h)
def jz {S:Type} (k:Nat):Rw S:=aj eo xn fun l κ=>aa k (gy k l) (az κ)
def anH {S:Type} (k:Nat):Fx S:=fx 55 (fun _=>[]) (fun|53=>true|_=>false) [(165,Gn k),(167,Pu k)] [(4,⟨[(4,.none),(5,.none),(13,.none),(14,.none),(15,.none)],[(5,[some (200320,true)]),(12,[])]⟩,ap 6 23),(15,⟨[(8,.none),(9,some (100009,true)),(34,.none),(35,.none),(36,.none)],[(5,[.none])]⟩,ap 9 191)] k Tryz.f129 false [] 0
def FG (l:List Cl) (b12_0:List (Cl×Bool)) (b5_0:List Cl) (v15:Int):St UU:=⟨[(4,(.mp 12)),(5,(pt 5)),(13,(sC l)),(14,(.int .i64 (l.length:Int))),(15,(iI v15))],[(5,.cells [(.own 200320 0)]),(12,.map ET.C b12_0)],[(200320,⟨0,ET.C,b5_0⟩)],[(200320,.wr)]⟩
def M5 (b5_0:List Cl) (v36:Int) (kept9:List Cl):St UU:=⟨[(8,(.func 167 [] [(pt 5)])),(9,(.own 100009 0)),(34,(sC b5_0)),(35,(.int .i64 (b5_0.length:Int))),(36,(iI v36))],[(5,.cells [(sC b5_0)])],[(100009,⟨0,ET.C,kept9⟩)],[(100009,.wr)]⟩
section
variable {S:Type} (k:Nat) (l:List Cl) (κ:Out UU→Option S)
theorem YM (b5_0): ∀n v36 kept9,(anH k).lp κ 15 [] n (M5 b5_0 v36 kept9)=nz k (az κ) b5_0 n v36 kept9:=aL (wM k (az κ) b5_0) rfl (fun _=>rfl) fun r v36 kept9=>by kernel_rfl
theorem YL: ∀n b12_0 b5_0 v15,(anH k).lp κ 4 [] n (FG l b12_0 b5_0 v15)=pZ k (az κ) l n b12_0 b5_0 v15:=eW (fun own=>sq k (az κ) l (fun b5_0 v36 kept9=>nz k (az κ) b5_0 k v36 kept9) own) rfl (fun _=>rfl) fun r b12_0 b5_0 v15=>Eq.trans (b:=sq k (az κ) l (fun b5_0 v36 kept9=>(anH k).lp κ 15 [] k (M5 b5_0 v36 kept9)) (fun b12_0 b5_0 v15=>r (FG l b12_0 b5_0 v15)) b12_0 b5_0 v15) (by kernel_rfl) (by simp only [YM])
end
theorem j_ {S:Type} (o:Obj) (ho:ai o) (k:Nat):Tl o 129 (jz k:Rw S):=ak (anH k) ⟨J7 o ho k,abG o ho k,trivial⟩ Tryz.func129 (by kernel_rfl) fun l κ x h=>Eq.trans (b:=Hw k (az κ) (fun b12_0 b5_0 v15=>(anH k).lp κ 4 [] k (FG l b12_0 b5_0 v15)) l) (by kernel_rfl) (Eq.trans (by simp only [YL];rfl) (al h))
def PE {S:Type} (k:Nat):Rw S:=aj jk xn fun s1 s2 κ=>aa k (zz k s1 s2) (aA κ)
def CU {S:Type} (k:Nat):Fx S:=fp 26 [] [(4,aS [0,1,12,13] [],ap 5 11)] k Tryz.f157 0
def M6 (s1 s2:List Cl) (v13:Int):St UU:=⟨[(0,(sC s1)),(1,(sC s2)),(12,(.int .i64 (s1.length:Int))),(13,(iI v13))],[],[],[]⟩
section
variable {S:Type} (k:Nat) (s1 s2:List Cl) (κ:Out UU→Option S)
theorem YN: ∀n v13,(CU k).lp κ 4 [] n (M6 s1 s2 v13)=qN k (aA κ) s1 s2 n v13:=cF (yb k (aA κ) s1 s2) rfl (fun _=>rfl) fun r v13=>by kernel_rfl
end
theorem abQ {S:Type} (o:Obj) (ho:ai o) (k:Nat):Tl o 157 (PE k:Rw S):=ak (CU k) trivial Tryz.func157 (by kernel_rfl) fun s1 s2 κ x h=>Eq.trans (b:=IL k (aA κ) (fun v13=>(CU k).lp κ 4 [] k (M6 s1 s2 v13)) s1 s2) (by kernel_rfl) (Eq.trans (by simp only [YN];rfl) (al h))
def ow {S:Type} (k:Nat):Rw S:=aj eo xn fun f κ=>aa k (hY k f) (aA κ)
def VZ {S:Type} (k:Nat):Fx S:=fp 17 [(129,jz k),(157,PE k)] [] k Tryz.f120 0
theorem pL {S:Type} (o:Obj) (ho:ai o) (k:Nat):Tl o 120 (ow k:Rw S):=ak (VZ k) ⟨j_ o ho k,abQ o ho k,trivial⟩ Tryz.func120 (by kernel_rfl) fun f κ x h=>Eq.trans (by kernel_rfl) (al h)
def vL {S:Type} (k:Nat):Rw S:=aj fU xn fun i κ=>aa k (nd k i) (aA κ)
def V0 {S:Type} (k:Nat):Fx S:=fp 9 [] [] k Tryz.f257 0
theorem zN {S:Type} (o:Obj) (ho:ai o) (k:Nat):Tl o 257 (vL k:Rw S):=ak (V0 k) trivial Tryz.func257 (by kernel_rfl) fun i κ x h=>Eq.trans (by kernel_rfl) (al h)
def Ba {S:Type} (k:Nat):Rw S:=aj lS xn fun s i κ=>aa k (jX k s i) (b_ κ)
def V1 {S:Type} (k:Nat):Fx S:=fp 16 [(257,vL k)] [] k Tryz.f214 0
theorem Ef {S:Type} (o:Obj) (ho:ai o) (k:Nat):Tl o 214 (Ba k:Rw S):=ak (V1 k) ⟨zN o ho k,trivial⟩ Tryz.func214 (by kernel_rfl) fun s i κ x h=>Eq.trans (by kernel_rfl) (al h)
def Bb {S:Type} (k:Nat):Rw S:=aj eo xn fun f κ=>aa k (jc k f) (b_ κ)
def CV {S:Type} (k:Nat):Fx S:=fp 22 [(214,Ba k)] [(3,aS [3,6,7,8] [],ap 5 11)] k Tryz.f158 0
def M7 (f:List Cl) (s3 v8:Int):St UU:=⟨[(3,(iU s3)),(6,(sC f)),(7,(.int .i64 (f.length:Int))),(8,(iI v8))],[],[],[]⟩
section
variable {S:Type} (k:Nat) (f:List Cl) (κ:Out UU→Option S)
theorem YO: ∀n s3 v8,(CV k).lp κ 3 [] n (M7 f s3 v8)=qb k (b_ κ) f n s3 v8:=aL (wY k (b_ κ) f) rfl (fun _=>rfl) fun r s3 v8=>by kernel_rfl
end
theorem Eg {S:Type} (o:Obj) (ho:ai o) (k:Nat):Tl o 158 (Bb k:Rw S):=ak (CV k) ⟨Ef o ho k,trivial⟩ Tryz.func158 (by kernel_rfl) fun f κ x h=>Eq.trans (b:=HL k (b_ κ) (fun s3 v8=>(CV k).lp κ 3 [] k (M7 f s3 v8)) f) (by kernel_rfl) (Eq.trans (by simp only [YO];rfl) (al h))
def PF {S:Type} (k:Nat):Rw S:=aj EV xn fun f dims κ=>aa k (lK k f dims) (aA κ)
def V2 {S:Type} (k:Nat):Fx S:=fp 15 [(158,Bb k)] [] k Tryz.f121 0
theorem abR {S:Type} (o:Obj) (ho:ai o) (k:Nat):Tl o 121 (PF k:Rw S):=ak (V2 k) ⟨Eg o ho k,trivial⟩ Tryz.func121 (by kernel_rfl) fun f dims κ x h=>Eq.trans (by kernel_rfl) (al h)
def GH {S:Type} (k:Nat):Rw S:=aj ny xn fun c κ=>aa k (tB k c) (aA κ)
def V4 {S:Type} (k:Nat):Fx S:=fp 9 [] [] k Tryz.f160 0
theorem Kl {S:Type} (o:Obj) (ho:ai o) (k:Nat):Tl o 160 (GH k:Rw S):=ak (V4 k) trivial Tryz.func160 (by kernel_rfl) fun c κ x h=>Eq.trans (by kernel_rfl) (al h)
def PG {S:Type} (k:Nat):Rw S:=aj Lf xn fun s κ=>aa k (DW k s) (aE κ)
def CW {S:Type} (k:Nat):Fx S:=fp 19 [(160,GH k)] [(2,aS [0,1,7,8] [],ap 4 5)] k Tryz.f215 0
def M8 (s:List Cl) (v8:Int):St UU:=⟨[(0,(sC s)),(1,(.func 160 [] [])),(7,(.int .i64 (s.length:Int))),(8,(iI v8))],[],[],[]⟩
section
variable {S:Type} (k:Nat) (s:List Cl) (κ:Out UU→Option S)
theorem YP: ∀n v8,(CW k).lp κ 2 [] n (M8 s v8)=qP k (aE κ) s n v8:=cF (yd k (aE κ) s) rfl (fun _=>rfl) fun r v8=>by kernel_rfl
end
theorem abS {S:Type} (o:Obj) (ho:ai o) (k:Nat):Tl o 215 (PG k:Rw S):=ak (CW k) ⟨Kl o ho k,trivial⟩ Tryz.func215 (by kernel_rfl) fun s κ x h=>Eq.trans (b:=IN k (aE κ) (fun v8=>(CW k).lp κ 2 [] k (M8 s v8)) s) (by kernel_rfl) (Eq.trans (by simp only [YP];rfl) (al h))
def PH {S:Type} (k:Nat):Rw S:=aj Lf xn fun s κ=>aa k (DU k s) (aA κ)
def V5 {S:Type} (k:Nat):Fx S:=fp 9 [(215,PG k)] [] k Tryz.f159 0
theorem abT {S:Type} (o:Obj) (ho:ai o) (k:Nat):Tl o 159 (PH k:Rw S):=ak (V5 k) ⟨abS o ho k,trivial⟩ Tryz.func159 (by kernel_rfl) fun s κ x h=>Eq.trans (by kernel_rfl) (al h)
def GI {S:Type} (k:Nat):Rw S:=aj eo xn fun f κ=>aa k (pd k f) (aA κ)
def V6 {S:Type} (k:Nat):Fx S:=fp 10 [(120,ow k),(159,PH k)] [] k Tryz.f122 0
theorem Km {S:Type} (o:Obj) (ho:ai o) (k:Nat):Tl o 122 (GI k:Rw S):=ak (V6 k) ⟨pL o ho k,abT o ho k,trivial⟩ Tryz.func122 (by kernel_rfl) fun f κ x h=>Eq.trans (by kernel_rfl) (al h)
def PJ {S:Type} (k:Nat):Rw S:=aj amR xn fun t vars dims κ=>aa k (uj k t vars dims) (aA κ)
def sc {S:Type} (k:Nat):Fx S:=fp 138 [(44,Ov k),(118,OC k),(119,OM k),(120,ow k),(121,PF k),(122,GI k)] [(1000003,aS [1,2,3] [(3,6)],ap 2 3),(15,aS [2,3,107,108,109] [(3,6)],ap 6 23)] k Tryz.f70 0
def M9 (t:Tm) (vars dims:Int):St UU:=⟨[(1,(iI vars)),(2,(iI dims)),(3,(pt 3))],[(3,bT t)],[],[]⟩
def M_ (t:Tm) (dims:Int) (v109:Int):St UU:=⟨[(2,(iI dims)),(3,(pt 3)),(107,(sB t.sys)),(108,(.int .i64 (t.sys.length:Int))),(109,(iI v109))],[(3,bT t)],[],[]⟩
section
variable {S:Type} (k:Nat) (t:Tm) (vars dims:Int) (κ:Out UU→Option S)
theorem YR: ∀n v109,(sc k).lp κ 15 [] n (M_ t dims v109)=kO k (aA κ) t dims n v109:=cF (yl k (aA κ) t dims) rfl (fun _=>rfl) fun r v109=>by kernel_rfl
theorem YQ: ∀n,(sc k).jn κ 1000003 [] n (M9 t vars dims)=Ar k (aA κ) t vars dims n:=gL (tw k (aA κ) t vars dims (fun v109=>kO k (aA κ) t dims k v109)) rfl (fun _=>rfl) (Eq.trans (b:=tw k (aA κ) t vars dims (fun v109=>(sc k).lp κ 15 [] k (M_ t dims v109))) (by kernel_rfl) (by simp only [YR]))
end
theorem abU {S:Type} (o:Obj) (ho:ai o) (k:Nat):Tl o 70 (PJ k:Rw S):=ak (sc k) ⟨aaH o ho k,aaO o ho k,aaY o ho k,pL o ho k,abR o ho k,Km o ho k,trivial⟩ Tryz.func70 (by kernel_rfl) fun t vars dims κ x h=>Eq.trans (b:=IZ k (aA κ) ((sc k).jn κ 1000003 [] k (M9 t vars dims)) t vars dims) (by kernel_rfl) (Eq.trans (by simp only [YQ];rfl) (al h))
def vM {S:Type} (hd:dr S):Rw S:=aj Lg xn fun t vars dims bound κ=>hd t vars dims bound (aA κ)
def PK {S:Type} (hd:dr S) (k:Nat):Rw S:=aj adA Ut fun a_k v d c0 c1 c2 κ=>aa k (uh hd k a_k v d c0 c1 c2) (gc c0 c1 c2 κ)
def V8 {S:Type} (hd:dr S) (k:Nat):Fx S:=fp 21 [(38,vM hd)] [] k Tryz.f72 3
theorem abV {S:Type} (o:Obj) (ho:ai o) (hd:dr S) (Hd:Tl o 38 (vM hd)) (k:Nat):Tl o 72 (PK hd k:Rw S):=ak (V8 hd k) ⟨Hd,trivial⟩ Tryz.func72 (by kernel_rfl) fun a_k v d c0 c1 c2 κ x h=>Eq.trans (by kernel_rfl) (al h)
def PL {S:Type} (hd:dr S) (k:Nat):Rw S:=aj adB Ut fun t c0 c1 c2 κ=>aa k (zB hd k t c0 c1 c2) (gc c0 c1 c2 κ)
def mS {S:Type} (hd:dr S) (k:Nat):Fx S:=fp 60 [(36,jA k),(72,PK hd k)] [(2,aS [1,2,15,16,17] [(2,6),(1000000,1),(1000001,1),(1000002,1)],ap 4 5),(12,aS [1,9,40,41,42] [(1000000,1),(1000001,1),(1000002,1)],ap 7 47),(15,aS [1,9,40,41,42,47,48,49] [(1000000,1),(1000001,1),(1000002,1)],ap 15 13103)] k Tryz.f71 3
def FH (c0 c1:Int) (c2:Bool) (t:Tm) (v17:Int):St UU:=⟨[(1,(.func 72 [] [(pt 1000000),(pt 1000001),(pt 1000002)])),(2,(pt 2)),(15,(sT t.kids)),(16,(.int .i64 (t.kids.length:Int))),(17,(iI v17))],[(2,bT t),(1000000,bI c0),(1000001,bI c1),(1000002,.cells [(.bool c2)])],[],[]⟩
def vi (c0 c1:Int) (c2:Bool) (t:Tm) (v42 more9:Int):St UU:=⟨[(1,(.func 72 [] [(pt 1000000),(pt 1000001),(pt 1000002)])),(9,(iI more9)),(40,(sB t.sys)),(41,(.int .i64 (t.sys.length:Int))),(42,(iI v42))],[(1000000,bI c0),(1000001,bI c1),(1000002,.cells [(.bool c2)])],[],[]⟩
def Na (c0 c1:Int) (c2:Bool) (t:Tm) (v42:Int) (x4:(Br Tm)) (more9:Int) (v49:Int):St UU:=⟨[(1,(.func 72 [] [(pt 1000000),(pt 1000001),(pt 1000002)])),(9,(iI more9)),(40,(sB t.sys)),(41,(.int .i64 (t.sys.length:Int))),(42,(iI v42)),(47,(sT x4.kids)),(48,(.int .i64 (x4.kids.length:Int))),(49,(iI v49))],[(1000000,bI c0),(1000001,bI c1),(1000002,.cells [(.bool c2)])],[],[]⟩
section
variable {S:Type} (hd:dr S) (k:Nat) (t:Tm) (c0 c1:Int) (c2:Bool) (κ:Out UU→Option S)
theorem YU (v42 x4 more9 κ1): ∀n v49,(mS hd k).lp κ 15 [κ1] n (Na c0 c1 c2 t v42 x4 more9 v49)=mi hd k (gc c0 c1 c2 κ) (fun v42 more9=>κ1 (vi c0 c1 c2 t v42 more9)) c0 c1 c2 t v42 x4 more9 n v49:=cF (yh hd k (gc c0 c1 c2 κ) c0 c1 c2 t v42 x4 more9 (fun v42 more9=>κ1 (vi c0 c1 c2 t v42 more9))) rfl (fun _=>rfl) fun r v49=>by kernel_rfl
theorem YT: ∀n v42 more9,(mS hd k).lp κ 12 [] n (vi c0 c1 c2 t v42 more9)=iC hd k (gc c0 c1 c2 κ) c0 c1 c2 t n v42 more9:=aL (fun own=>tl hd k (gc c0 c1 c2 κ) c0 c1 c2 t (fun v42 x4 more9 v49=>mi hd k (gc c0 c1 c2 κ) own c0 c1 c2 t v42 x4 more9 k v49) own) rfl (fun _=>rfl) fun r v42 more9=>Eq.trans (b:=tl hd k (gc c0 c1 c2 κ) c0 c1 c2 t (fun v42 x4 more9 v49=>(mS hd k).lp κ 15 [r] k (Na c0 c1 c2 t v42 x4 more9 v49)) (fun v42 more9=>r (vi c0 c1 c2 t v42 more9)) v42 more9) (by kernel_rfl) (by simp only [YU])
theorem YS: ∀n v17,(mS hd k).lp κ 2 [] n (FH c0 c1 c2 t v17)=nZ hd k (gc c0 c1 c2 κ) c0 c1 c2 t n v17:=cF (fun own=>tk hd k (gc c0 c1 c2 κ) c0 c1 c2 t (fun v42 more9=>iC hd k (gc c0 c1 c2 κ) c0 c1 c2 t k v42 more9) own) rfl (fun _=>rfl) fun r v17=>Eq.trans (b:=tk hd k (gc c0 c1 c2 κ) c0 c1 c2 t (fun v42 more9=>(mS hd k).lp κ 12 [] k (vi c0 c1 c2 t v42 more9)) (fun v17=>r (FH c0 c1 c2 t v17)) v17) (by kernel_rfl) (by simp only [YT])
end
theorem abW {S:Type} (o:Obj) (ho:ai o) (hd:dr S) (Hd:Tl o 38 (vM hd)) (k:Nat):Tl o 71 (PL hd k:Rw S):=ak (mS hd k) ⟨kc o ho k,abV o ho hd Hd k,trivial⟩ Tryz.func71 (by kernel_rfl) fun t c0 c1 c2 κ x h=>Eq.trans (b:=IU hd k (gc c0 c1 c2 κ) (fun v17=>(mS hd k).lp κ 2 [] k (FH c0 c1 c2 t v17)) t c0 c1 c2) (by kernel_rfl) (Eq.trans (by simp only [YS];rfl) (al h))
def V7 {S:Type} (hd:dr S) (k:Nat):Fx S:=fp 24 [(70,PJ k),(71,PL hd k)] [] k Tryz.f38 0
theorem K5 {S:Type} (o:Obj) (ho:ai o): ∀k:Nat,Tl o 38 (vM (ic k:dr S))
 |0=>dz fun t vars dims bound κ x h=>by cases h
 |k+1=>ak (V7 (ic k) k) ⟨abU o ho k,abW o ho (ic k) (K5 o ho k) k,trivial⟩ Tryz.func38 (by kernel_rfl) fun t vars dims bound κ x h=>Eq.trans (by kernel_rfl) h
def iJ {S:Type} (k:Nat):Rw S:=aj dV xn fun t κ=>aa k (fe k t) (aE κ)
def V9 {S:Type} (k:Nat):Fx S:=fp 12 [(37,Ol k),(38,vM (ic k))] [] k Tryz.f21 0
theorem jh {S:Type} (o:Obj) (ho:ai o) (k:Nat):Tl o 21 (iJ k:Rw S):=ak (V9 k) ⟨aaA o ho k,K5 o ho k,trivial⟩ Tryz.func21 (by kernel_rfl) fun t κ x h=>Eq.trans (by kernel_rfl) (al h)
def ox {S:Type} (hd:eP S):Rw S:=aj dV xn fun t κ=>hd t (aF κ)
def PM {S:Type} (hd:eP S) (k:Nat):Rw S:=aj EW xn fun l κ=>aa k (ui hd k l) (AN κ)
def CY {S:Type} (hd:eP S) (k:Nat):Fx S:=fp 19 [(22,ox hd)] [(3,⟨[(3,some (100003,true)),(6,.none),(7,.none),(8,.none)],[]⟩,ap 5 11)] k Tryz.f49 0
def Nc (l:List Tm) (out3:List Tm) (v8:Int):St UU:=⟨[(3,(.own 100003 0)),(6,(sT l)),(7,(.int .i64 (l.length:Int))),(8,(iI v8))],[],[(100003,⟨0,ET.T,out3⟩)],[(100003,.wr)]⟩
section
variable {S:Type} (hd:eP S) (k:Nat) (l:List Tm) (κ:Out UU→Option S)
theorem YW: ∀n out3 v8,(CY hd k).lp κ 3 [] n (Nc l out3 v8)=qR hd k (AN κ) l n out3 v8:=aL (yf hd k (AN κ) l) rfl (fun _=>rfl) fun r out3 v8=>by kernel_rfl
end
theorem abX {S:Type} (o:Obj) (ho:ai o) (hd:eP S) (Hd:Tl o 22 (ox hd)) (k:Nat):Tl o 49 (PM hd k:Rw S):=ak (CY hd k) ⟨Hd,trivial⟩ Tryz.func49 (by kernel_rfl) fun l κ x h=>Eq.trans (b:=IS hd k (AN κ) (fun out3 v8=>(CY hd k).lp κ 3 [] k (Nc l out3 v8)) l) (by kernel_rfl) (Eq.trans (by simp only [YW];rfl) (al h))
def CX {S:Type} (hd:eP S) (k:Nat):Fx S:=fp 40 [(48,G2),(49,PM hd k)] [(3,⟨[(2,.none),(3,.none),(20,.none),(21,.none),(22,.none)],[(2,[.none,.none,.none,some (200131,true),some (200132,true),some (200133,true)]),(3,[.none,.none,.none,.none,.none,some (200197,true)])]⟩,ap 5 11)] k Tryz.f22 0
def Nb (t:Tm) (r1:List Cl) (r2:List Tm) (b3_5:List (Br Tm)) (v22:Int):St UU:=⟨[(2,(pt 2)),(3,(pt 3)),(20,(sB t.sys)),(21,(.int .i64 (t.sys.length:Int))),(22,(iI v22))],[(2,.cells [(iI 0),(iI 0),(.str ByteArray.empty),(.own 200131 0),(.own 200132 0),(.own 200133 0)]),(3,.cells [(iI t.kind),(iI t.n),(.str t.name),(sC r1),(sT r2),(.own 200197 0)])],[(200197,⟨0,ET.B,b3_5⟩),(200133,⟨0,ET.B,([]:List (Br Tm))⟩),(200132,⟨0,ET.T,([]:List Tm)⟩),(200131,⟨0,ET.C,([]:List Cl)⟩)],[(200197,.wr),(200133,.wr),(200132,.wr),(200131,.wr)]⟩
section
variable {S:Type} (hd:eP S) (k:Nat) (t:Tm) (κ:Out UU→Option S)
theorem YV (r1 r2): ∀n b3_5 v22,(CX hd k).lp κ 3 [] n (Nb t r1 r2 b3_5 v22)=qQ hd k (aF κ) t r1 r2 n b3_5 v22:=aL (ye hd k (aF κ) t r1 r2) rfl (fun _=>rfl) fun r b3_5 v22=>by kernel_rfl
end
theorem uD {S:Type} (o:Obj) (ho:ai o): ∀k:Nat,Tl o 22 (ox (dJ k:eP S))
 |0=>dz fun t κ x h=>by cases h
 |k+1=>ak (CX (dJ k) k) ⟨akS o ho,abX o ho (dJ k) (uD o ho k) k,trivial⟩ Tryz.func22 (by kernel_rfl) fun t κ x h=>Eq.trans (b:=IP (dJ k) k (aF κ) (fun r1 r2 b3_5 v22=>(CX (dJ k) k).lp κ 3 [] k (Nb t r1 r2 b3_5 v22)) t) (by kernel_rfl) (Eq.trans (by simp only [YV];rfl) h)
def aij {S:Type} (k:Nat):Rw S:=aj EX cu fun c0 κ=>aa k (dG k c0) (eJ c0 κ)
def jB {S:Type} (k:Nat):Rw S:=aj EX cu fun c0 κ=>aa k (dG k c0) (aA κ)
def Wa {S:Type} (k:Nat):Fx S:=fp 8 [] [] k Tryz.f50 1
theorem abY {S:Type} (o:Obj) (ho:ai o) (k:Nat):Tl o 50 (aij k:Rw S):=ak (Wa k) trivial Tryz.func50 (by kernel_rfl) fun c0 κ x h=>Eq.trans (by kernel_rfl) (al h)
theorem ke {S:Type} (o:Obj) (ho:ai o) (k:Nat):Tl o 50 (jB k:Rw S):=tlS (abY o ho k) fun c0 κ x h=>Eq.trans (b:=aa k (dG k c0) (eJ c0 (DB _ κ))) (by kernel_rfl) (Eq.trans (congrArg (aa k (dG k c0)) (funext fun r=>if_pos rfl)) h)
def Bc {S:Type} (k:Nat):Rw S:=aj Ag xn fun kind kids κ=>aa k (hX k kind kids) (F9 κ)
def Wb {S:Type} (k:Nat):Fx S:=fx 8 (fun _=>[]) (fun _=>false) [] [] k Tryz.f82 true [] 0
theorem Eh {S:Type} (o:Obj) (ho:ai o) (k:Nat):Tl o 82 (Bc k:Rw S):=ak (Wb k) trivial Tryz.func82 (by kernel_rfl) fun kind kids κ x h=>Eq.trans (by kernel_rfl) (al h)
def GJ {S:Type} (k:Nat):Rw S:=aj adC xn fun sys κ=>aa k (pa k sys) (N7 κ)
def Wc {S:Type} (k:Nat):Fx S:=fx 8 (fun _=>[]) (fun _=>false) [(82,Bc k)] [] k Tryz.f81 true [] 0
theorem Ko {S:Type} (o:Obj) (ho:ai o) (k:Nat):Tl o 81 (GJ k:Rw S):=ak (Wc k) ⟨Eh o ho k,trivial⟩ Tryz.func81 (by kernel_rfl) fun sys κ x h=>Eq.trans (by kernel_rfl) (al h)
end
end Go.Proofs.YtfkkpkhfjpaafaaGreatDoor
namespace Go.Proofs.YtfkkpkhfjpaafaaGreatDoor
open Go PI
set_option linter.unusedVariables false
set_option maxRecDepth 100000
noncomputable section
def oy {S:Type} (k:Nat):Rw S:=aj adD cu fun a_e c0 κ=>aa k (iZ k a_e c0) (ahY κ)
def Wd {S:Type} (k:Nat):Fx S:=fp 13 [] [] k Tryz.f140 1
theorem pM {S:Type} (o:Obj) (ho:ai o) (k:Nat):Tl o 140 (oy k:Rw S):=ak (Wd k) trivial Tryz.func140 (by kernel_rfl) fun a_e c0 κ x h=>Eq.trans (by kernel_rfl) (al h)
def GK {S:Type} (k:Nat):Rw S:=aj EW xn fun l κ=>aa k (m9 k l) (AO κ)
def CZ {S:Type} (k:Nat):Fx S:=fp 22 [(21,iJ k),(140,oy k)] [(3,aS [3,8,9,10] [(7,1)],ap 5 11)] k Tryz.f80 0
def Nd (l:List Tm) (b7_0 v10:Int):St UU:=⟨[(3,(pt 7)),(8,(sT l)),(9,(.int .i64 (l.length:Int))),(10,(iI v10))],[(7,bI b7_0)],[],[]⟩
section
variable {S:Type} (k:Nat) (l:List Tm) (κ:Out UU→Option S)
theorem YX: ∀n b7_0 v10,(CZ k).lp κ 3 [] n (Nd l b7_0 v10)=pY k (AO κ) l n b7_0 v10:=aL (wL k (AO κ) l) rfl (fun _=>rfl) fun r b7_0 v10=>by kernel_rfl
end
theorem Kp {S:Type} (o:Obj) (ho:ai o) (k:Nat):Tl o 80 (GK k:Rw S):=ak (CZ k) ⟨jh o ho k,pM o ho k,trivial⟩ Tryz.func80 (by kernel_rfl) fun l κ x h=>Eq.trans (b:=Hs k (AO κ) (fun b7_0 v10=>(CZ k).lp κ 3 [] k (Nd l b7_0 v10)) l) (by kernel_rfl) (Eq.trans (by simp only [YX];rfl) (al h))
def my {S:Type} (k:Nat):Rw S:=aj EX cu fun c0 κ=>aa k (de k c0) (eJ c0 κ)
def We {S:Type} (k:Nat):Fx S:=fp 8 [] [] k Tryz.f84 1
theorem nq {S:Type} (o:Obj) (ho:ai o) (k:Nat):Tl o 84 (my k:Rw S):=ak (We k) trivial Tryz.func84 (by kernel_rfl) fun c0 κ x h=>Eq.trans (by kernel_rfl) (al h)
def Bd {S:Type} (k:Nat):Rw S:=aj adE xn fun l κ=>aa k (pi k l) (aE κ)
def C0 {S:Type} (k:Nat):Fx S:=fp 15 [(120,ow k)] [(2,aS [5,6,7] [],ap 4 5)] k Tryz.f124 0
def Nf (l:List (List Cl)) (v7:Int):St UU:=⟨[(5,(Hm l .none)),(6,(.int .i64 (l.length:Int))),(7,(iI v7))],[],[],[]⟩
section
variable {S:Type} (k:Nat) (l:List (List Cl)) (κ:Out UU→Option S)
theorem YY: ∀n v7,(C0 k).lp κ 2 [] n (Nf l v7)=qi k (aE κ) l n v7:=cF (w9 k (aE κ) l) rfl (fun _=>rfl) fun r v7=>by kernel_rfl
end
theorem Ei {S:Type} (o:Obj) (ho:ai o) (k:Nat):Tl o 124 (Bd k:Rw S):=ak (C0 k) ⟨pL o ho k,trivial⟩ Tryz.func124 (by kernel_rfl) fun l κ x h=>Eq.trans (b:=HT k (aE κ) (fun v7=>(C0 k).lp κ 2 [] k (Nf l v7)) l) (by kernel_rfl) (Eq.trans (by simp only [YY];rfl) (al h))
def GL {S:Type} (k:Nat):Rw S:=aj cn xn fun κ=>aa k (tK k) (ahZ κ)
def Wf {S:Type} (k:Nat):Fx S:=fx 1 (fun _=>[]) (fun _=>false) [] [] k Tryz.f126 false [true] 0
theorem Kq {S:Type} (o:Obj) (ho:ai o) (k:Nat):Tl o 126 (GL k:Rw S):=ak (Wf k) trivial Tryz.func126 (by kernel_rfl) fun κ x h=>Eq.trans (by kernel_rfl) (al h)
def GM {S:Type} (k:Nat):Rw S:=aj fU xn fun i κ=>aa k (pn k i) (b_ κ)
def Wg {S:Type} (k:Nat):Fx S:=fp 9 [] [] k Tryz.f230 0
theorem Kr {S:Type} (o:Obj) (ho:ai o) (k:Nat):Tl o 230 (GM k:Rw S):=ak (Wg k) trivial Tryz.func230 (by kernel_rfl) fun i κ x h=>Eq.trans (by kernel_rfl) (al h)
def PO {S:Type} (k:Nat):Rw S:=aj Li xn fun s a_from a_by κ=>aa k (lx k s a_from a_by) (vA κ)
def Wi {S:Type} (k:Nat):Fx S:=fp 46 [(230,GM k)] [] k Tryz.f166 0
theorem ab0 {S:Type} (o:Obj) (ho:ai o) (k:Nat):Tl o 166 (PO k:Rw S):=ak (Wi k) ⟨Kr o ho k,trivial⟩ Tryz.func166 (by kernel_rfl) fun s a_from a_by κ x h=>Eq.trans (by kernel_rfl) (al h)
def PP {S:Type} (k:Nat):Rw S:=aj Lj xn fun c a_from a_by κ=>aa k (yD k c a_from a_by) (N8 κ)
def Wj {S:Type} (k:Nat):Fx S:=fp 42 [(165,Gn k),(166,PO k)] [] k Tryz.f128 0
theorem ab1 {S:Type} (o:Obj) (ho:ai o) (k:Nat):Tl o 128 (PP k:Rw S):=ak (Wj k) ⟨J7 o ho k,ab0 o ho k,trivial⟩ Tryz.func128 (by kernel_rfl) fun c a_from a_by κ x h=>Eq.trans (by kernel_rfl) (al h)
def PQ {S:Type} (k:Nat):Rw S:=aj adF B9 fun a_have c c0 c1 κ=>aa k (DN k a_have c c0 c1) (ah0 c0 c1 κ)
def Wl {S:Type} (k:Nat):Fx S:=fx 22 (fun _=>[]) (fun _=>false) [(128,PP k)] [] k Tryz.f127 false [true,false] 2
theorem ab2 {S:Type} (o:Obj) (ho:ai o) (k:Nat):Tl o 127 (PQ k:Rw S):=ak (Wl k) ⟨ab1 o ho k,trivial⟩ Tryz.func127 (by kernel_rfl) fun a_have c c0 c1 κ x h=>Eq.trans (by kernel_rfl) (al h)
def PR {S:Type} (k:Nat):Rw S:=aj adG B9 fun l a_from c0 c1 κ=>aa k (yT k l a_from c0 c1) (AP c0 c1 κ)
def C1 {S:Type} (k:Nat):Fx S:=fx 33 (fun|23=>[true,false]|_=>[]) (fun _=>false) [(127,PQ k)] [(2,⟨[(1,some (100001,true)),(2,.none),(13,.none),(14,.none),(15,.none)],[(1000000,[.none]),(1000001,[.none])]⟩,ap 4 5)] k Tryz.f125 false [] 2
def Ng (c0 c1:Int) (l:List Cl) (v1:List Cl) (v15:Int):St UU:=⟨[(1,(.own 100001 0)),(2,(.func 127 [] [(pt 1000000),(pt 1000001)])),(13,(sC l)),(14,(.int .i64 (l.length:Int))),(15,(iI v15))],[(1000000,bI c0),(1000001,bI c1)],[(100001,⟨0,ET.C,v1⟩)],[(100001,.wr)]⟩
section
variable {S:Type} (k:Nat) (l a_from:List Cl) (c0 c1:Int) (κ:Out UU→Option S)
theorem YZ: ∀n v1 v15,(C1 k).lp κ 2 [] n (Ng c0 c1 l v1 v15)=qf k (AP c0 c1 κ) c0 c1 l n v1 v15:=aL (w6 k (AP c0 c1 κ) c0 c1 l) rfl (fun _=>rfl) fun r v1 v15=>by kernel_rfl
end
theorem ab3 {S:Type} (o:Obj) (ho:ai o) (k:Nat):Tl o 125 (PR k:Rw S):=ak (C1 k) ⟨ab2 o ho k,trivial⟩ Tryz.func125 (by kernel_rfl) fun l a_from c0 c1 κ x h=>Eq.trans (b:=HQ k (AP c0 c1 κ) (fun v1 v15=>(C1 k).lp κ 2 [] k (Ng c0 c1 l v1 v15)) l a_from c0 c1) (by kernel_rfl) (Eq.trans (by simp only [YZ];rfl) (al h))
def oz {S:Type} (k:Nat):Rw S:=aj EY xn fun f a_from a_by κ=>aa k (jV k f a_from a_by) (az κ)
def Wm {S:Type} (k:Nat):Fx S:=fx 31 (fun|21=>[false,true,false]|_=>[]) (fun _=>false) [(124,Bd k),(125,PR k),(126,GL k),(129,jz k)] [] k Tryz.f75 false [] 0
theorem pN {S:Type} (o:Obj) (ho:ai o) (k:Nat):Tl o 75 (oz k:Rw S):=ak (Wm k) ⟨Ei o ho k,ab3 o ho k,Kq o ho k,j_ o ho k,trivial⟩ Tryz.func75 (by kernel_rfl) fun f a_from a_by κ x h=>Eq.trans (by kernel_rfl) (al h)
def PS {S:Type} (k:Nat):Rw S:=aj adH xn fun l_0 l_1 f a_from κ=>aa k (tN k l_0 l_1 f a_from) (ah1 κ)
def Wn {S:Type} (k:Nat):Fx S:=fp 31 [(75,oz k)] [] k Tryz.f142 0
theorem ab4 {S:Type} (o:Obj) (ho:ai o) (k:Nat):Tl o 142 (PS k:Rw S):=ak (Wn k) ⟨pN o ho k,trivial⟩ Tryz.func142 (by kernel_rfl) fun l_0 l_1 f a_from κ x h=>Eq.trans (by kernel_rfl) (al h)
def vO {S:Type} (hd:fJ S):Rw S:=aj adI xn fun l_0 l_1 t v d κ=>hd l_0 l_1 t v d (ah κ)
def jQ {S:Type} (hd:fJ S) (k:Nat):Fx S:=fp 128 [(36,jA k),(90,vO hd),(142,PS k)] [(1000006,⟨[(2,.none),(3,.none),(4,.none),(5,.none),(8,.none),(9,.none)],[(4,[.none,.none]),(5,[.none,.none,.none,.none,.none,.none]),(8,[.none,.none,.none,some (200515,true),some (200516,true),some (200517,true)]),(9,[.none,.none,.none,.none,some (200580,true),some (200581,true)])]⟩,ap 3 7),(7,⟨[(2,.none),(3,.none),(4,.none),(5,.none),(8,.none),(9,.none),(55,.none),(56,.none),(57,.none)],[(4,[.none,.none]),(5,[.none,.none,.none,.none,.none,.none]),(8,[.none,.none,.none,some (200515,true),some (200516,true),some (200517,true)]),(9,[.none,.none,.none,.none,some (200580,true),some (200581,true)])]⟩,ap 6 23),(16,⟨[(2,.none),(3,.none),(4,.none),(8,.none),(9,.none),(14,.none),(88,.none),(89,.none),(90,.none)],[(4,[.none,.none]),(8,[.none,.none,.none,some (200515,true),some (200516,true),some (200517,true)]),(9,[.none,.none,.none,.none,some (200580,true),some (200581,true)])]⟩,ap 9 191),(20,⟨[(2,.none),(3,.none),(4,.none),(8,.none),(9,.none),(14,.none),(17,.none),(88,.none),(89,.none),(90,.none),(101,.none),(102,.none),(103,.none)],[(4,[.none,.none]),(8,[.none,.none,.none,some (200515,true),some (200516,true),some (200517,true)]),(9,[.none,.none,.none,.none,some (200580,true),some (200581,true)]),(17,[.none,some (201089,true)])]⟩,ap 19 183487)] k Tryz.f90 0
def Nh (l_0 l_1:Int) (t:Tm) (r2:List Cl) (v d:Int) (b9_1:Int):St UU:=⟨[(2,(iI v)),(3,(iI d)),(4,(pt 4)),(5,(pt 5)),(8,(pt 8)),(9,(pt 9))],[(4,.cells [(iI l_0),(iI l_1)]),(5,bT t),(8,.cells [(iI 0),(iI 0),(.str ByteArray.empty),(.own 200515 0),(.own 200516 0),(.own 200517 0)]),(9,.cells [(iI t.kind),(iI b9_1),(.str t.name),(sC r2),(.own 200580 0),(.own 200581 0)])],[(200581,⟨0,ET.B,([]:List (Br Tm))⟩),(200580,⟨0,ET.T,([]:List Tm)⟩),(200517,⟨0,ET.B,([]:List (Br Tm))⟩),(200516,⟨0,ET.T,([]:List Tm)⟩),(200515,⟨0,ET.C,([]:List Cl)⟩)],[(200581,.wr),(200580,.wr),(200517,.wr),(200516,.wr),(200515,.wr)]⟩
def FI (l_0 l_1:Int) (t:Tm) (b9_1:Int) (r2:List Cl) (v d:Int) (b9_4:List Tm) (v57:Int):St UU:=⟨[(2,(iI v)),(3,(iI d)),(4,(pt 4)),(5,(pt 5)),(8,(pt 8)),(9,(pt 9)),(55,(sT t.kids)),(56,(.int .i64 (t.kids.length:Int))),(57,(iI v57))],[(4,.cells [(iI l_0),(iI l_1)]),(5,bT t),(8,.cells [(iI 0),(iI 0),(.str ByteArray.empty),(.own 200515 0),(.own 200516 0),(.own 200517 0)]),(9,.cells [(iI t.kind),(iI b9_1),(.str t.name),(sC r2),(.own 200580 0),(.own 200581 0)])],[(200581,⟨0,ET.B,([]:List (Br Tm))⟩),(200580,⟨0,ET.T,b9_4⟩),(200517,⟨0,ET.B,([]:List (Br Tm))⟩),(200516,⟨0,ET.T,([]:List Tm)⟩),(200515,⟨0,ET.C,([]:List Cl)⟩)],[(200581,.wr),(200580,.wr),(200517,.wr),(200516,.wr),(200515,.wr)]⟩
def vj (l_0 l_1:Int) (t:Tm) (b9_1:Int) (r2:List Cl) (b9_4:List Tm) (v d:Int) (b9_5:List (Br Tm)) (more14 v90:Int):St UU:=⟨[(2,(iI v)),(3,(iI d)),(4,(pt 4)),(8,(pt 8)),(9,(pt 9)),(14,(iI more14)),(88,(sB t.sys)),(89,(.int .i64 (t.sys.length:Int))),(90,(iI v90))],[(4,.cells [(iI l_0),(iI l_1)]),(8,.cells [(iI 0),(iI 0),(.str ByteArray.empty),(.own 200515 0),(.own 200516 0),(.own 200517 0)]),(9,.cells [(iI t.kind),(iI b9_1),(.str t.name),(sC r2),(.own 200580 0),(.own 200581 0)])],[(200581,⟨0,ET.B,b9_5⟩),(200580,⟨0,ET.T,b9_4⟩),(200517,⟨0,ET.B,([]:List (Br Tm))⟩),(200516,⟨0,ET.T,([]:List Tm)⟩),(200515,⟨0,ET.C,([]:List Cl)⟩)],[(200581,.wr),(200580,.wr),(200517,.wr),(200516,.wr),(200515,.wr)]⟩
def Ni (r12:List Cl) (l_0 l_1:Int) (t:Tm) (b9_1:Int) (r2:List Cl) (b9_4:List Tm) (b9_5:List (Br Tm)) (x10:(Br Tm)) (more14 v d v90:Int) (b17_1:List Tm) (v103:Int):St UU:=⟨[(2,(iI v)),(3,(iI d)),(4,(pt 4)),(8,(pt 8)),(9,(pt 9)),(14,(iI more14)),(17,(pt 17)),(88,(sB t.sys)),(89,(.int .i64 (t.sys.length:Int))),(90,(iI v90)),(101,(sT x10.kids)),(102,(.int .i64 (x10.kids.length:Int))),(103,(iI v103))],[(4,.cells [(iI l_0),(iI l_1)]),(8,.cells [(iI 0),(iI 0),(.str ByteArray.empty),(.own 200515 0),(.own 200516 0),(.own 200517 0)]),(9,.cells [(iI t.kind),(iI b9_1),(.str t.name),(sC r2),(.own 200580 0),(.own 200581 0)]),(17,.cells [(sC r12),(.own 201089 0)])],[(201089,⟨0,ET.T,b17_1⟩),(200581,⟨0,ET.B,b9_5⟩),(200580,⟨0,ET.T,b9_4⟩),(200517,⟨0,ET.B,([]:List (Br Tm))⟩),(200516,⟨0,ET.T,([]:List Tm)⟩),(200515,⟨0,ET.C,([]:List Cl)⟩)],[(201089,.wr),(200581,.wr),(200580,.wr),(200517,.wr),(200516,.wr),(200515,.wr)]⟩
section
variable {S:Type} (hd:fJ S) (k:Nat) (l_0 l_1:Int) (t:Tm) (v d:Int) (κ:Out UU→Option S)
theorem Y3 (r12 b9_1 r2 b9_4 b9_5 x10 more14 v90 κ2): ∀n b17_1 v103,(jQ hd k).lp κ 20 [κ2] n (Ni r12 l_0 l_1 t b9_1 r2 b9_4 b9_5 x10 more14 v d v90 b17_1 v103)=l7 hd k (ah κ) (fun b9_5 more14 v90=>κ2 (vj l_0 l_1 t b9_1 r2 b9_4 v d b9_5 more14 v90)) r12 l_0 l_1 t b9_1 r2 b9_4 b9_5 x10 more14 v d v90 n b17_1 v103:=aL (xe hd k (ah κ) r12 l_0 l_1 t b9_1 r2 b9_4 b9_5 x10 more14 v d v90 (fun b9_5 more14 v90=>κ2 (vj l_0 l_1 t b9_1 r2 b9_4 v d b9_5 more14 v90))) rfl (fun _=>rfl) fun r b17_1 v103=>by kernel_rfl
theorem Y2 (b9_1 r2 b9_4): ∀n b9_5 more14 v90,(jQ hd k).lp κ 16 [] n (vj l_0 l_1 t b9_1 r2 b9_4 v d b9_5 more14 v90)=it hd k (ah κ) l_0 l_1 t b9_1 r2 b9_4 v d n b9_5 more14 v90:=eW (fun own=>sA hd k (ah κ) l_0 l_1 t b9_1 r2 b9_4 v d (fun r12 b9_5 x10 more14 v90 b17_1 v103=>l7 hd k (ah κ) own r12 l_0 l_1 t b9_1 r2 b9_4 b9_5 x10 more14 v d v90 k b17_1 v103) own) rfl (fun _=>rfl) fun r b9_5 more14 v90=>Eq.trans (b:=sA hd k (ah κ) l_0 l_1 t b9_1 r2 b9_4 v d (fun r12 b9_5 x10 more14 v90 b17_1 v103=>(jQ hd k).lp κ 20 [r] k (Ni r12 l_0 l_1 t b9_1 r2 b9_4 b9_5 x10 more14 v d v90 b17_1 v103)) (fun b9_5 more14 v90=>r (vj l_0 l_1 t b9_1 r2 b9_4 v d b9_5 more14 v90)) b9_5 more14 v90) (by kernel_rfl) (by simp only [Y3])
theorem Y1 (b9_1 r2): ∀n b9_4 v57,(jQ hd k).lp κ 7 [] n (FI l_0 l_1 t b9_1 r2 v d b9_4 v57)=kr hd k (ah κ) l_0 l_1 t b9_1 r2 v d n b9_4 v57:=aL (fun own=>sz hd k (ah κ) l_0 l_1 t b9_1 r2 v d (fun b9_4 b9_5 more14 v90=>it hd k (ah κ) l_0 l_1 t b9_1 r2 b9_4 v d k b9_5 more14 v90) own) rfl (fun _=>rfl) fun r b9_4 v57=>Eq.trans (b:=sz hd k (ah κ) l_0 l_1 t b9_1 r2 v d (fun b9_4 b9_5 more14 v90=>(jQ hd k).lp κ 16 [] k (vj l_0 l_1 t b9_1 r2 b9_4 v d b9_5 more14 v90)) (fun b9_4 v57=>r (FI l_0 l_1 t b9_1 r2 v d b9_4 v57)) b9_4 v57) (by kernel_rfl) (by simp only [Y2])
theorem Y0 (r2): ∀n b9_1,(jQ hd k).jn κ 1000006 [] n (Nh l_0 l_1 t r2 v d b9_1)=uJ hd k (ah κ) l_0 l_1 t r2 v d n b9_1:=nx (Da hd k (ah κ) l_0 l_1 t r2 v d (fun b9_1 b9_4 v57=>kr hd k (ah κ) l_0 l_1 t b9_1 r2 v d k b9_4 v57)) rfl (fun _=>rfl) (fun b9_1=>Eq.trans (b:=Da hd k (ah κ) l_0 l_1 t r2 v d (fun b9_1 b9_4 v57=>(jQ hd k).lp κ 7 [] k (FI l_0 l_1 t b9_1 r2 v d b9_4 v57)) b9_1) (by kernel_rfl) (by simp only [Y1]))
end
theorem Ab {S:Type} (o:Obj) (ho:ai o): ∀k:Nat,Tl o 90 (vO (dk k:fJ S))
 |0=>dz fun l_0 l_1 t v d κ x h=>by cases h
 |k+1=>ak (jQ (dk k) k) ⟨kc o ho k,Ab o ho k,ab4 o ho k,trivial⟩ Tryz.func90 (by kernel_rfl) fun l_0 l_1 t v d κ x h=>Eq.trans (b:=HY (dk k) k (ah κ) (fun r2 b9_1=>(jQ (dk k) k).jn κ 1000006 [] k (Nh l_0 l_1 t r2 v d b9_1)) l_0 l_1 t v d) (by kernel_rfl) (Eq.trans (by simp only [Y0];rfl) h)
def PT {S:Type} (k:Nat):Rw S:=aj EZ Uu fun c0 c1 c2 κ=>aa k (yW k c0 c1 c2) (ah2 c0 c1 c2 κ)
def Wo {S:Type} (k:Nat):Fx S:=fp 11 [(90,vO (dk k))] [] k Tryz.f97 3
theorem ab5 {S:Type} (o:Obj) (ho:ai o) (k:Nat):Tl o 97 (PT k:Rw S):=ak (Wo k) ⟨Ab o ho k,trivial⟩ Tryz.func97 (by kernel_rfl) fun c0 c1 c2 κ x h=>Eq.trans (by kernel_rfl) (al h)
def PW {S:Type} (k:Nat):Rw S:=aj adJ Uu fun t numbers c0 c1 c2 κ=>aa k (y7 k t numbers c0 c1 c2) (AQ c0 c1 c2 κ)
def C2 {S:Type} (k:Nat):Fx S:=⟨⟨30,(fun _=>[]),(fun _=>false),.none,fun|6=>true|7=>true|_=>false⟩,[(21,iJ k),(97,PT k)],[(5,⟨[(2,.none),(6,.none),(7,.none),(17,.none),(18,.none),(19,.none)],[(1000000,[.none]),(1000001,[.none]),(1000002,[.none,.none,.none,.none,.none,.none]),(5000006,[.none,.none,.none,some (320200387,true),some (320200388,true),some (320200389,true)]),(5000007,[.none])]⟩,ap 5 11)],k,Tryz.f88,false,[],3,some (o9 16 141 Tryz.f141 k)⟩
def Nj (c0 c1:Int) (c2:Tm) (numbers:List Int) (v19:Int):St UU:=⟨[(2,(.func 97 [] [(pt 1000000),(pt 1000001),(pt 1000002)])),(6,(pt 5000006)),(7,(pt 5000007)),(17,(la numbers .none)),(18,(.int .i64 (numbers.length:Int))),(19,(iI v19))],[(1000000,bI c0),(1000001,bI c1),(1000002,bT c2),(5000006,.cells [(iI 0),(iI 0),(.str ByteArray.empty),(.own 320200387 0),(.own 320200388 0),(.own 320200389 0)]),(5000007,bI 0)],[(320200389,⟨0,ET.B,([]:List (Br Tm))⟩),(320200388,⟨0,ET.T,([]:List Tm)⟩),(320200387,⟨0,ET.C,([]:List Cl)⟩)],[(320200389,.wr),(320200388,.wr),(320200387,.wr)]⟩
section
variable {S:Type} (k:Nat) (t:Tm) (numbers:List Int) (c0 c1:Int) (c2:Tm) (κ:Out UU→Option S)
theorem Y4: ∀n v19,(C2 k).lp κ 5 [] n (Nj c0 c1 c2 numbers v19)=nE k (AQ c0 c1 c2 κ) c0 c1 c2 numbers n v19:=cF (xd k (AQ c0 c1 c2 κ) c0 c1 c2 numbers) rfl (fun _=>rfl) fun r v19=>by kernel_rfl
end
theorem ab6 {S:Type} (o:Obj) (ho:ai o) (k:Nat):Tl o 88 (PW k:Rw S):=BZ (C2 k) rfl (yn o Tryz.func141 (by kernel_rfl)) ⟨jh o ho k,ab5 o ho k,trivial⟩ Tryz.func88 (by kernel_rfl) fun t numbers c0 c1 c2 κ x h=>Eq.trans (b:=BS k (AQ c0 c1 c2 κ) (fun v19=>(C2 k).lp κ 5 [] k (Nj c0 c1 c2 numbers v19)) t numbers c0 c1 c2) (by kernel_rfl) (Eq.trans (by simp only [Y4];rfl) (al h))
def Be {S:Type} (k:Nat):Rw S:=aj amR xn fun t vars dims κ=>aa k (lu k t vars dims) (cM κ)
def Wp {S:Type} (k:Nat):Fx S:=fp 18 [(88,PW k)] [] k Tryz.f56 0
theorem Ej {S:Type} (o:Obj) (ho:ai o) (k:Nat):Tl o 56 (Be k:Rw S):=ak (Wp k) ⟨ab6 o ho k,trivial⟩ Tryz.func56 (by kernel_rfl) fun t vars dims κ x h=>Eq.trans (by kernel_rfl) (al h)
def PY {S:Type} (k:Nat):Rw S:=aj E0 cu fun t vars dims c0 κ=>aa k (hU k t vars dims c0) (gR κ)
def Wq {S:Type} (k:Nat):Fx S:=fp 30 [(56,Be k),(84,my k),(140,oy k)] [] k Tryz.f83 1
theorem ab8 {S:Type} (o:Obj) (ho:ai o) (k:Nat):Tl o 83 (PY k:Rw S):=ak (Wq k) ⟨Ej o ho k,nq o ho k,pM o ho k,trivial⟩ Tryz.func83 (by kernel_rfl) fun t vars dims c0 κ x h=>Eq.trans (by kernel_rfl) (al h)
def GN {S:Type} (k:Nat):Rw S:=aj Ai cu fun t c0 κ=>aa k (eQ k t c0) (ah3 κ)
def Wr {S:Type} (k:Nat):Fx S:=fp 28 [(21,iJ k),(84,my k),(140,oy k)] [] k Tryz.f87 1
theorem Ks {S:Type} (o:Obj) (ho:ai o) (k:Nat):Tl o 87 (GN k:Rw S):=ak (Wr k) ⟨jh o ho k,nq o ho k,pM o ho k,trivial⟩ Tryz.func87 (by kernel_rfl) fun t c0 κ x h=>Eq.trans (by kernel_rfl) (al h)
def PZ {S:Type} (k:Nat):Rw S:=aj adK cu fun f c0 κ=>aa k (tA k f c0) (N9 κ)
def Ws {S:Type} (k:Nat):Fx S:=fp 23 [(75,oz k),(84,my k),(140,oy k)] [] k Tryz.f85 1
theorem ab9 {S:Type} (o:Obj) (ho:ai o) (k:Nat):Tl o 85 (PZ k:Rw S):=ak (Ws k) ⟨pN o ho k,nq o ho k,pM o ho k,trivial⟩ Tryz.func85 (by kernel_rfl) fun f c0 κ x h=>Eq.trans (by kernel_rfl) (al h)
def P0 {S:Type} (k:Nat):Rw S:=aj EZ B_ fun c0 c1 c2 κ=>aa k (yX k c0 c1 c2) (N_ c0 c1 c2 κ)
def Wt {S:Type} (k:Nat):Fx S:=fp 10 [(90,vO (dk k))] [] k Tryz.f91 3
theorem ab_ {S:Type} (o:Obj) (ho:ai o) (k:Nat):Tl o 91 (P0 k:Rw S):=ak (Wt k) ⟨Ab o ho k,trivial⟩ Tryz.func91 (by kernel_rfl) fun c0 c1 c2 κ x h=>Eq.trans (by kernel_rfl) (al h)
def P1 {S:Type} (k:Nat):Rw S:=aj adL B_ fun t numbers c0 c1 c2 κ=>aa k (yZ k t numbers c0 c1 c2) (mt c0 c1 c2 κ)
def C3 {S:Type} (k:Nat):Fx S:=⟨⟨30,(fun _=>[]),(fun _=>false),.none,fun|6=>true|7=>true|_=>false⟩,[(21,iJ k),(91,P0 k)],[(5,⟨[(2,.none),(6,.none),(7,.none),(17,.none),(18,.none),(19,.none)],[(1000000,[.none]),(1000001,[.none,.none,.none,.none,.none,.none]),(1000002,[.none]),(5000006,[.none,.none,.none,some (320200387,true),some (320200388,true),some (320200389,true)]),(5000007,[.none])]⟩,ap 5 11)],k,Tryz.f88,false,[],3,some (o9 16 141 Tryz.f141 k)⟩
def Nk (c0:Int) (c1:Tm) (c2:Int) (numbers:List Int) (v19:Int):St UU:=⟨[(2,(.func 91 [] [(pt 1000000),(pt 1000001),(pt 1000002)])),(6,(pt 5000006)),(7,(pt 5000007)),(17,(la numbers .none)),(18,(.int .i64 (numbers.length:Int))),(19,(iI v19))],[(1000000,bI c0),(1000001,bT c1),(1000002,bI c2),(5000006,.cells [(iI 0),(iI 0),(.str ByteArray.empty),(.own 320200387 0),(.own 320200388 0),(.own 320200389 0)]),(5000007,bI 0)],[(320200389,⟨0,ET.B,([]:List (Br Tm))⟩),(320200388,⟨0,ET.T,([]:List Tm)⟩),(320200387,⟨0,ET.C,([]:List Cl)⟩)],[(320200389,.wr),(320200388,.wr),(320200387,.wr)]⟩
section
variable {S:Type} (k:Nat) (t:Tm) (numbers:List Int) (c0:Int) (c1:Tm) (c2:Int) (κ:Out UU→Option S)
theorem Y5: ∀n v19,(C3 k).lp κ 5 [] n (Nk c0 c1 c2 numbers v19)=nC k (mt c0 c1 c2 κ) c0 c1 c2 numbers n v19:=cF (xa k (mt c0 c1 c2 κ) c0 c1 c2 numbers) rfl (fun _=>rfl) fun r v19=>by kernel_rfl
end
theorem aca {S:Type} (o:Obj) (ho:ai o) (k:Nat):Tl o 88 (P1 k:Rw S):=BZ (C3 k) rfl (yn o Tryz.func141 (by kernel_rfl)) ⟨jh o ho k,ab_ o ho k,trivial⟩ Tryz.func88 (by kernel_rfl) fun t numbers c0 c1 c2 κ x h=>Eq.trans (b:=BQ k (mt c0 c1 c2 κ) (fun v19=>(C3 k).lp κ 5 [] k (Nk c0 c1 c2 numbers v19)) t numbers c0 c1 c2) (by kernel_rfl) (Eq.trans (by simp only [Y5];rfl) (al h))
def Bf {S:Type} (k:Nat):Rw S:=aj amR xn fun t a_from a_by κ=>aa k (lv k t a_from a_by) (cM κ)
def Wu {S:Type} (k:Nat):Fx S:=fp 16 [(88,P1 k)] [] k Tryz.f54 0
theorem Ek {S:Type} (o:Obj) (ho:ai o) (k:Nat):Tl o 54 (Bf k:Rw S):=ak (Wu k) ⟨aca o ho k,trivial⟩ Tryz.func54 (by kernel_rfl) fun t a_from a_by κ x h=>Eq.trans (by kernel_rfl) (al h)
def vP {S:Type} (k:Nat):Rw S:=aj lS xn fun s i κ=>aa k (i_ k s i) (b_ κ)
def Wv {S:Type} (k:Nat):Fx S:=fp 16 [(257,vL k)] [] k Tryz.f259 0
theorem zO {S:Type} (o:Obj) (ho:ai o) (k:Nat):Tl o 259 (vP k:Rw S):=ak (Wv k) ⟨zN o ho k,trivial⟩ Tryz.func259 (by kernel_rfl) fun s i κ x h=>Eq.trans (by kernel_rfl) (al h)
def P2 {S:Type} (k:Nat):Rw S:=aj uG xn fun a_x κ=>aa k (JH k a_x) (aE κ)
def Ww {S:Type} (k:Nat):Fx S:=fp 21 [] [] k Tryz.f291 0
theorem acb {S:Type} (o:Obj) (ho:ai o) (k:Nat):Tl o 291 (P2 k:Rw S):=ak (Ww k) trivial Tryz.func291 (by kernel_rfl) fun a_x κ x h=>Eq.trans (by kernel_rfl) (al h)
def Bg {S:Type} (k:Nat):Rw S:=aj uG xn fun s κ=>aa k (lw k s) (aE κ)
def Wx {S:Type} (k:Nat):Fx S:=fp 6 [(291,P2 k)] [] k Tryz.f258 0
theorem Em {S:Type} (o:Obj) (ho:ai o) (k:Nat):Tl o 258 (Bg k:Rw S):=ak (Wx k) ⟨acb o ho k,trivial⟩ Tryz.func258 (by kernel_rfl) fun s κ x h=>Eq.trans (by kernel_rfl) (al h)
def P3 {S:Type} (k:Nat):Rw S:=aj fU xn fun i κ=>aa k (yE k i) (aA κ)
def Wy {S:Type} (k:Nat):Fx S:=fp 7 [(258,Bg k),(259,vP k)] [] k Tryz.f216 0
theorem acd {S:Type} (o:Obj) (ho:ai o) (k:Nat):Tl o 216 (P3 k:Rw S):=ak (Wy k) ⟨Em o ho k,zO o ho k,trivial⟩ Tryz.func216 (by kernel_rfl) fun i κ x h=>Eq.trans (by kernel_rfl) (al h)
def P4 {S:Type} (k:Nat):Rw S:=aj E1 xn fun t i a_r κ=>aa k (DM k t i a_r) (aE κ)
def Wz {S:Type} (k:Nat):Fx S:=fp 21 [(21,iJ k),(120,ow k),(216,P3 k)] [] k Tryz.f161 0
theorem ace {S:Type} (o:Obj) (ho:ai o) (k:Nat):Tl o 161 (P4 k:Rw S):=ak (Wz k) ⟨jh o ho k,pL o ho k,acd o ho k,trivial⟩ Tryz.func161 (by kernel_rfl) fun t i a_r κ x h=>Eq.trans (by kernel_rfl) (al h)
def P5 {S:Type} (k:Nat):Rw S:=aj Lk wD fun c0 c1 κ=>aa k (DG k c0 c1) (ah4 c0 c1 κ)
def WA {S:Type} (k:Nat):Fx S:=fp 6 [] [] k Tryz.f217 2
theorem acf {S:Type} (o:Obj) (ho:ai o) (k:Nat):Tl o 217 (P5 k:Rw S):=ak (WA k) trivial Tryz.func217 (by kernel_rfl) fun c0 c1 κ x h=>Eq.trans (by kernel_rfl) (al h)
def P6 {S:Type} (k:Nat):Rw S:=aj adM wD fun c0 c1 κ=>aa k (DH k c0 c1) (ah5 c0 c1 κ)
def WB {S:Type} (k:Nat):Fx S:=fp 6 [] [] k Tryz.f217 2
theorem acg {S:Type} (o:Obj) (ho:ai o) (k:Nat):Tl o 217 (P6 k:Rw S):=ak (WB k) trivial Tryz.func217 (by kernel_rfl) fun c0 c1 κ x h=>Eq.trans (by kernel_rfl) (al h)
def P7 {S:Type} (k:Nat):Rw S:=aj adN xn fun i a_r κ=>aa k (DF k i a_r) (ah6 κ)
def WC {S:Type} (k:Nat):Fx S:=fp 12 [(217,ol (uy Lk wD) (P5 k) (P6 k))] [] k Tryz.f162 0
theorem ach {S:Type} (o:Obj) (ho:ai o) (k:Nat):Tl o 162 (P7 k:Rw S):=ak (WC k) ⟨vw (acf o ho k) (acg o ho k),trivial⟩ Tryz.func162 (by kernel_rfl) fun i a_r κ x h=>Eq.trans (by kernel_rfl) (al h)
def vQ {S:Type} (k:Nat):Rw S:=aj lS xn fun s i κ=>aa k (amz k s i) (aA κ)
def WD {S:Type} (k:Nat):Fx S:=fp 15 [(257,vL k)] [] k Tryz.f219 0
theorem zP {S:Type} (o:Obj) (ho:ai o) (k:Nat):Tl o 219 (vQ k:Rw S):=ak (WD k) ⟨zN o ho k,trivial⟩ Tryz.func219 (by kernel_rfl) fun s i κ x h=>Eq.trans (by kernel_rfl) (al h)
def GO {S:Type} (k:Nat):Rw S:=aj eo xn fun f κ=>aa k (tD k f) (fB κ)
def WE {S:Type} (k:Nat):Fx S:=fp 5 [] [] k Tryz.f220 0
theorem Kt {S:Type} (o:Obj) (ho:ai o) (k:Nat):Tl o 220 (GO k:Rw S):=ak (WE k) trivial Tryz.func220 (by kernel_rfl) fun f κ x h=>Eq.trans (by kernel_rfl) (al h)
def P8 {S:Type} (k:Nat):Rw S:=aj fU xn fun i κ=>aa k (yK k i) (aA κ)
def WF {S:Type} (k:Nat):Fx S:=fp 7 [(258,Bg k),(259,vP k)] [] k Tryz.f265 0
theorem aci {S:Type} (o:Obj) (ho:ai o) (k:Nat):Tl o 265 (P8 k:Rw S):=ak (WF k) ⟨Em o ho k,zO o ho k,trivial⟩ Tryz.func265 (by kernel_rfl) fun i κ x h=>Eq.trans (by kernel_rfl) (al h)
def GP {S:Type} (k:Nat):Rw S:=aj ny xn fun c κ=>aa k (tJ k c) (ah7 κ)
def WG {S:Type} (k:Nat):Fx S:=fp 8 [(160,GH k)] [] k Tryz.f295 0
theorem Ku {S:Type} (o:Obj) (ho:ai o) (k:Nat):Tl o 295 (GP k:Rw S):=ak (WG k) ⟨Kl o ho k,trivial⟩ Tryz.func295 (by kernel_rfl) fun c κ x h=>Eq.trans (by kernel_rfl) (al h)
def P9 {S:Type} (k:Nat):Rw S:=aj adO xn fun l κ=>aa k (yN k l) (fB κ)
def C4 {S:Type} (k:Nat):Fx S:=fp 29 [(295,GP k)] [(3,⟨[(1,.none),(5,some (100005,true)),(10,.none),(11,.none),(12,.none)],[]⟩,ap 5 11)] k Tryz.f294 0
def Nm (l:List Cl) (v12:Int) (out5:List Cl):St UU:=⟨[(1,(.func 295 [] [])),(5,(.own 100005 0)),(10,(sC l)),(11,(.int .i64 (l.length:Int))),(12,(iI v12))],[],[(100005,⟨0,ET.C,out5⟩)],[(100005,.wr)]⟩
section
variable {S:Type} (k:Nat) (l:List Cl) (κ:Out UU→Option S)
theorem Y9: ∀n v12 out5,(C4 k).lp κ 3 [] n (Nm l v12 out5)=p9 k (fB κ) l n v12 out5:=aL (wW k (fB κ) l) rfl (fun _=>rfl) fun r v12 out5=>by kernel_rfl
end
theorem acj {S:Type} (o:Obj) (ho:ai o) (k:Nat):Tl o 294 (P9 k:Rw S):=ak (C4 k) ⟨Ku o ho k,trivial⟩ Tryz.func294 (by kernel_rfl) fun l κ x h=>Eq.trans (b:=HJ k (fB κ) (fun v12 out5=>(C4 k).lp κ 3 [] k (Nm l v12 out5)) l) (by kernel_rfl) (Eq.trans (by simp only [Y9];rfl) (al h))
def GQ {S:Type} (k:Nat):Rw S:=aj eo xn fun f κ=>aa k (tI k f) (az κ)
def WH {S:Type} (k:Nat):Fx S:=fp 12 [(120,ow k),(129,jz k),(294,P9 k)] [] k Tryz.f266 0
theorem Kv {S:Type} (o:Obj) (ho:ai o) (k:Nat):Tl o 266 (GQ k:Rw S):=ak (WH k) ⟨pL o ho k,j_ o ho k,acj o ho k,trivial⟩ Tryz.func266 (by kernel_rfl) fun f κ x h=>Eq.trans (by kernel_rfl) (al h)
def P_ {S:Type} (k:Nat):Rw S:=aj EU wC fun b c0 κ=>aa k (yO k b c0) (ah8 c0 κ)
def WJ {S:Type} (k:Nat):Fx S:=fp 11 [(231,A7 k),(295,GP k)] [] k Tryz.f296 1
theorem ack {S:Type} (o:Obj) (ho:ai o) (k:Nat):Tl o 296 (P_ k:Rw S):=ak (WJ k) ⟨Eb o ho k,Ku o ho k,trivial⟩ Tryz.func296 (by kernel_rfl) fun b c0 κ x h=>Eq.trans (by kernel_rfl) (al h)
def Qa {S:Type} (k:Nat):Rw S:=aj adP wC fun l c0 κ=>aa k (yM k l c0) (AR c0 κ)
def C5 {S:Type} (k:Nat):Fx S:=fp 29 [(296,P_ k)] [(3,⟨[(1,.none),(5,some (100005,true)),(10,.none),(11,.none),(12,.none)],[(1000000,[.none,.none])]⟩,ap 5 11)] k Tryz.f294 1
def Np (c0:Cl) (l:List Cl) (v12:Int) (out5:List Cl):St UU:=⟨[(1,(.func 296 [] [(pt 1000000)])),(5,(.own 100005 0)),(10,(sC l)),(11,(.int .i64 (l.length:Int))),(12,(iI v12))],[(1000000,bC c0)],[(100005,⟨0,ET.C,out5⟩)],[(100005,.wr)]⟩
section
variable {S:Type} (k:Nat) (l:List Cl) (c0:Cl) (κ:Out UU→Option S)
theorem Zc: ∀n v12 out5,(C5 k).lp κ 3 [] n (Np c0 l v12 out5)=p8 k (AR c0 κ) c0 l n v12 out5:=aL (wV k (AR c0 κ) c0 l) rfl (fun _=>rfl) fun r v12 out5=>by kernel_rfl
end
theorem acl {S:Type} (o:Obj) (ho:ai o) (k:Nat):Tl o 294 (Qa k:Rw S):=ak (C5 k) ⟨ack o ho k,trivial⟩ Tryz.func294 (by kernel_rfl) fun l c0 κ x h=>Eq.trans (b:=HI k (AR c0 κ) (fun v12 out5=>(C5 k).lp κ 3 [] k (Np c0 l v12 out5)) l c0) (by kernel_rfl) (Eq.trans (by simp only [Zc];rfl) (al h))
def Qb {S:Type} (k:Nat):Rw S:=aj jk xn fun f g κ=>aa k (pe k f g) (az κ)
def C6 {S:Type} (k:Nat):Fx S:=fp 25 [(129,jz k),(294,Qa k)] [(3,⟨[(1,.none),(6,some (100006,true)),(9,.none),(10,.none),(11,.none)],[]⟩,ap 5 11)] k Tryz.f267 0
def Nq (g f:List Cl) (v11:Int) (out6:List Cl):St UU:=⟨[(1,(sC g)),(6,(.own 100006 0)),(9,(sC f)),(10,(.int .i64 (f.length:Int))),(11,(iI v11))],[],[(100006,⟨0,ET.C,out6⟩)],[(100006,.wr)]⟩
section
variable {S:Type} (k:Nat) (f g:List Cl) (κ:Out UU→Option S)
theorem Zd: ∀n v11 out6,(C6 k).lp κ 3 [] n (Nq g f v11 out6)=p_ k (az κ) g f n v11 out6:=aL (wX k (az κ) g f) rfl (fun _=>rfl) fun r v11 out6=>by kernel_rfl
end
theorem acm {S:Type} (o:Obj) (ho:ai o) (k:Nat):Tl o 267 (Qb k:Rw S):=ak (C6 k) ⟨j_ o ho k,acl o ho k,trivial⟩ Tryz.func267 (by kernel_rfl) fun f g κ x h=>Eq.trans (b:=HK k (az κ) (fun v11 out6=>(C6 k).lp κ 3 [] k (Nq g f v11 out6)) f g) (by kernel_rfl) (Eq.trans (by simp only [Zd];rfl) (al h))
def Qc {S:Type} (k:Nat):Rw S:=aj jk xn fun f g κ=>aa k (yL k f g) (az κ)
def WK {S:Type} (k:Nat):Fx S:=fp 14 [(129,jz k)] [] k Tryz.f269 0
theorem acn {S:Type} (o:Obj) (ho:ai o) (k:Nat):Tl o 269 (Qc k:Rw S):=ak (WK k) ⟨j_ o ho k,trivial⟩ Tryz.func269 (by kernel_rfl) fun f g κ x h=>Eq.trans (by kernel_rfl) (al h)
def Bj {S:Type} (k:Nat):Rw S:=aj cn xn fun κ=>aa k (pg k) (fB κ)
def WL {S:Type} (k:Nat):Fx S:=fp 3 [] [] k Tryz.f74 0
theorem Eo {S:Type} (o:Obj) (ho:ai o) (k:Nat):Tl o 74 (Bj k:Rw S):=ak (WL k) trivial Tryz.func74 (by kernel_rfl) fun κ x h=>Eq.trans (by kernel_rfl) (al h)
def Qd {S:Type} (k:Nat):Rw S:=aj ny xn fun c κ=>aa k (yV k c) (az κ)
def jZ {S:Type} (k:Nat):Fx S:=fp 43 [(129,jz k),(259,vP k),(313,GZ)] [(3,⟨[(1,.none),(4,some (100004,true)),(11,.none),(12,.none),(13,.none)],[(1,[.none,.none])]⟩,ap 5 11),(8,⟨[(4,some (100004,true)),(26,.none),(27,.none),(28,.none)],[]⟩,ap 6 23)] k Tryz.f293 0
def FL (c:Cl) (r1:List Int) (v13:Int) (out4:List Cl):St UU:=⟨[(1,(pt 1)),(4,(.own 100004 0)),(11,(la r1 .none)),(12,(.int .i64 (r1.length:Int))),(13,(iI v13))],[(1,bC c)],[(100004,⟨0,ET.C,out4⟩)],[(100004,.wr)]⟩
def Nr (r5:List Int) (v28:Int) (out4':List Cl):St UU:=⟨[(4,(.own 100004 0)),(26,(la r5 .none)),(27,(.int .i64 (r5.length:Int))),(28,(iI v28))],[],[(100004,⟨0,ET.C,out4'⟩)],[(100004,.wr)]⟩
section
variable {S:Type} (k:Nat) (c:Cl) (κ:Out UU→Option S)
theorem Zf (r5): ∀n v28 out4',(jZ k).lp κ 8 [] n (Nr r5 v28 out4')=nB k (az κ) r5 n v28 out4':=aL (w8 k (az κ) r5) rfl (fun _=>rfl) fun r v28 out4'=>by kernel_rfl
theorem Ze (r1): ∀n v13 out4,(jZ k).lp κ 3 [] n (FL c r1 v13 out4)=qh k (az κ) c r1 n v13 out4:=aL (fun own=>aoa k (az κ) c r1 (fun r5 v28 out4'=>nB k (az κ) r5 k v28 out4') own) rfl (fun _=>rfl) fun r v13 out4=>Eq.trans (b:=aoa k (az κ) c r1 (fun r5 v28 out4'=>(jZ k).lp κ 8 [] k (Nr r5 v28 out4')) (fun v13 out4=>r (FL c r1 v13 out4)) v13 out4) (by kernel_rfl) (by simp only [Zf])
end
theorem aco {S:Type} (o:Obj) (ho:ai o) (k:Nat):Tl o 293 (Qd k:Rw S):=ak (jZ k) ⟨j_ o ho k,zO o ho k,akR o ho,trivial⟩ Tryz.func293 (by kernel_rfl) fun c κ x h=>Eq.trans (b:=HS k (az κ) (fun r1 v13 out4=>(jZ k).lp κ 3 [] k (FL c r1 v13 out4)) c) (by kernel_rfl) (Eq.trans (by simp only [Ze];rfl) (al h))
def GS {S:Type} (k:Nat):Rw S:=aj jk xn fun f g κ=>aa k (jW k f g) (az κ)
def sg {S:Type} (k:Nat):Fx S:=fp 35 [(129,jz k),(231,A7 k)] [(3,⟨[(1,.none),(6,some (100006,true)),(11,.none),(12,.none),(13,.none)],[]⟩,ap 5 11),(6,⟨[(1,.none),(6,some (100006,true)),(8,.none),(11,.none),(12,.none),(13,.none),(17,.none),(18,.none),(19,.none)],[(8,[.none,.none])]⟩,ap 13 3275)] k Tryz.f262 0
def vm (g f:List Cl) (v13:Int) (out6:List Cl):St UU:=⟨[(1,(sC g)),(6,(.own 100006 0)),(11,(sC f)),(12,(.int .i64 (f.length:Int))),(13,(iI v13))],[],[(100006,⟨0,ET.C,out6⟩)],[(100006,.wr)]⟩
def Ns (x1:Cl) (g f:List Cl) (v13:Int) (v19:Int) (out6':List Cl):St UU:=⟨[(1,(sC g)),(6,(.own 100006 0)),(8,(pt 8)),(11,(sC f)),(12,(.int .i64 (f.length:Int))),(13,(iI v13)),(17,(sC g)),(18,(.int .i64 (g.length:Int))),(19,(iI v19))],[(8,bC x1)],[(100006,⟨0,ET.C,out6'⟩)],[(100006,.wr)]⟩
section
variable {S:Type} (k:Nat) (f g:List Cl) (κ:Out UU→Option S)
theorem Zh (x1 v13 κ0): ∀n v19 out6',(sg k).lp κ 6 [κ0] n (Ns x1 g f v13 v19 out6')=nA k (az κ) (fun v13 out6=>κ0 (vm g f v13 out6)) x1 g f v13 n v19 out6':=aL (w7 k (az κ) x1 g f v13 (fun v13 out6=>κ0 (vm g f v13 out6))) rfl (fun _=>rfl) fun r v19 out6'=>by kernel_rfl
theorem Zg: ∀n v13 out6,(sg k).lp κ 3 [] n (vm g f v13 out6)=lZ k (az κ) g f n v13 out6:=aL (fun own=>an_ k (az κ) g f (fun x1 v13 v19 out6'=>nA k (az κ) own x1 g f v13 k v19 out6') own) rfl (fun _=>rfl) fun r v13 out6=>Eq.trans (b:=an_ k (az κ) g f (fun x1 v13 v19 out6'=>(sg k).lp κ 6 [r] k (Ns x1 g f v13 v19 out6')) (fun v13 out6=>r (vm g f v13 out6)) v13 out6) (by kernel_rfl) (by simp only [Zh])
end
theorem Kx {S:Type} (o:Obj) (ho:ai o) (k:Nat):Tl o 262 (GS k:Rw S):=ak (sg k) ⟨j_ o ho k,Eb o ho k,trivial⟩ Tryz.func262 (by kernel_rfl) fun f g κ x h=>Eq.trans (b:=HR k (az κ) (fun v13 out6=>(sg k).lp κ 3 [] k (vm g f v13 out6)) f g) (by kernel_rfl) (Eq.trans (by simp only [Zg];rfl) (al h))
def Qe {S:Type} (k:Nat):Rw S:=aj Ll xn fun a_have c κ=>aa k (yU k a_have c) (az κ)
def WM {S:Type} (k:Nat):Fx S:=fp 21 [(262,GS k),(293,Qd k)] [] k Tryz.f292 0
theorem acp {S:Type} (o:Obj) (ho:ai o) (k:Nat):Tl o 292 (Qe k:Rw S):=ak (WM k) ⟨Kx o ho k,aco o ho k,trivial⟩ Tryz.func292 (by kernel_rfl) fun a_have c κ x h=>Eq.trans (by kernel_rfl) (al h)
def Qf {S:Type} (k:Nat):Rw S:=aj adQ xn fun l a_from κ=>aa k (DP k l a_from) (az κ)
def C7 {S:Type} (k:Nat):Fx S:=fp 33 [(292,Qe k)] [(2,aS [1,2,13,14,15] [],ap 4 5)] k Tryz.f125 0
def Nt (l:List Cl) (v1:List Cl) (v15:Int):St UU:=⟨[(1,(sC v1)),(2,(.func 292 [] [])),(13,(sC l)),(14,(.int .i64 (l.length:Int))),(15,(iI v15))],[],[],[]⟩
section
variable {S:Type} (k:Nat) (l a_from:List Cl) (κ:Out UU→Option S)
theorem Zi: ∀n v1 v15,(C7 k).lp κ 2 [] n (Nt l v1 v15)=qe k (az κ) l n v1 v15:=aL (w5 k (az κ) l) rfl (fun _=>rfl) fun r v1 v15=>by kernel_rfl
end
theorem acq {S:Type} (o:Obj) (ho:ai o) (k:Nat):Tl o 125 (Qf k:Rw S):=ak (C7 k) ⟨acp o ho k,trivial⟩ Tryz.func125 (by kernel_rfl) fun l a_from κ x h=>Eq.trans (b:=HP k (az κ) (fun v1 v15=>(C7 k).lp κ 2 [] k (Nt l v1 v15)) l a_from) (by kernel_rfl) (Eq.trans (by simp only [Zi];rfl) (al h))
end
end Go.Proofs.YtfkkpkhfjpaafaaGreatDoor
