/- hypercubelaw17.HitElims returns true for every term: what the eliminators become at a composition is as the document has it, and the term stays as it is; the card with an upper bound of the input's bulk. -/
import Derived.Test.YtfkkpkhfjpaafaaGreatDoorX6
namespace Go.Proofs.YtfkkpkhfjpaafaaGreatDoor
open Go PI
set_option linter.unusedVariables false
set_option linter.unusedSimpArgs false
set_option maxRecDepth 20000
abbrev En:=Nat→Prop
def hp (c:Cl) (j:Nat):Prop:=c.pos.toNat.testBit j=true
def hn (c:Cl) (j:Nat):Prop:=c.neg.toNat.testBit j=true
end Go.Proofs.YtfkkpkhfjpaafaaGreatDoor
namespace Go.Proofs.YtfkkpkhfjpaafaaGreatDoor
open Go PI
set_option linter.unusedVariables false
set_option linter.unusedSimpArgs false
set_option maxRecDepth 20000
def wB (P:En) (n:Nat) (A:Prop):En:=fun j=>(j≠n∧P j)∨(j=n∧A)
end Go.Proofs.YtfkkpkhfjpaafaaGreatDoor
namespace Go.Proofs.YtfkkpkhfjpaafaaGreatDoor
open Go PI
set_option linter.unusedVariables false
set_option linter.unusedSimpArgs false
set_option maxRecDepth 20000
end Go.Proofs.YtfkkpkhfjpaafaaGreatDoor
namespace Go.Proofs.YtfkkpkhfjpaafaaGreatDoor
open Go PI
set_option linter.unusedVariables false
set_option linter.unusedSimpArgs false
set_option maxRecDepth 20000
def RX (fa:Bool) (f:List Cl):Prop:=RF f∧(fa=true→ ∀c∈f,bS c=false)
def same (n:Nat) (P P':En):Prop:= ∀j,j≠n→(P j↔P' j)
theorem same.symm {n:Nat} {P P':En} (h:same n P P'):same n P' P:=fun j hj=>(h j hj).symm
end Go.Proofs.YtfkkpkhfjpaafaaGreatDoor
namespace Go.Proofs.YtfkkpkhfjpaafaaGreatDoor
open Go PI
set_option linter.unusedVariables false
set_option linter.unusedSimpArgs false
set_option maxRecDepth 20000
end Go.Proofs.YtfkkpkhfjpaafaaGreatDoor
namespace Go.Proofs.YtfkkpkhfjpaafaaGreatDoor
open Go PI
set_option linter.unusedVariables false
set_option linter.unusedSimpArgs false
set_option maxRecDepth 20000
end Go.Proofs.YtfkkpkhfjpaafaaGreatDoor
namespace Go.Proofs.YtfkkpkhfjpaafaaGreatDoor
open Go PI
set_option linter.unusedVariables false
set_option linter.unusedSimpArgs false
set_option maxRecDepth 20000
abbrev Zp:=Bool→Int→List Cl→List Cl→Prop
abbrev Zo:=Int→List Cl→List Cl→Prop
mutual
def mY (pl:Bool):Tm→Prop
 | .mk kd n nm r ks sys=>RX (decide (kd=14)) r∧mX pl ks∧si pl sys
def mX (pl:Bool):List Tm→Prop
 |[]=>True
 |t::l=>mY pl t∧mX pl l
def si (pl:Bool):List (Br Tm)→Prop
 |[]=>True
 |b::l=>Ji pl b∧si pl l
def Ji (pl:Bool):Br Tm→Prop
 | .mk f ks=>(RX true f∧(pl=true→f≠[]))∧mX pl ks
end
section
variable {pl:Bool} {c vb db kd:Int} {fo fa:dC} {Ro Ro':Zp} {Rb Rb':Zo}
end
end Go.Proofs.YtfkkpkhfjpaafaaGreatDoor
namespace Go.Proofs.YtfkkpkhfjpaafaaGreatDoor
open Go PI
set_option linter.unusedVariables false
set_option linter.unusedSimpArgs false
set_option maxRecDepth 20000
variable {S:Type} {k:Nat}
def FQ (sys:List (Br Tm)):Bool:=sys.any fun b=>(b.face.length:Int)==0
mutual
def oq:Tm→Bool
 | .mk _ _ _ _ ks sys=> !FQ sys&&(ot ks&&AF sys)
def ot:List Tm→Bool
 |[]=>true
 |t::l=>oq t&&ot l
def AF:List (Br Tm)→Bool
 |[]=>true
 |b::l=>NZ b&&AF l
def NZ:Br Tm→Bool
 | .mk _ ks=>ot ks
end
theorem Q1 {f:List Cl} (hf:aq f) (h:cV f=true):RX true f:=by
 have:=(oB hf).1 h
 exact ⟨this.1,fun _=>this.2⟩
theorem FY {vars dims kd n nm r ks sys} (hok:OkT (.mk kd n nm r ks sys)) (h:cL vars dims (.mk kd n nm r ks sys)=true):RX (decide (kd=14)) r∧ ∀b∈sys,RX true b.face:=by
 obtain ⟨o1,o2,o3,o4,o5,o6,o7⟩:=hok.node
 unfold cL at h
 simp only [Bool.and_eq_true,decide_eq_true_eq] at h
 obtain ⟨⟨a1,a2,a3,a4⟩,a5⟩:=h
 have r0:r.length=0→RX (decide (kd=14)) r:=fun h=>by
  have:=List.length_eq_zero_iff.1 h;subst this;exact ⟨rA,fun _ c hc=>by cases hc⟩
 have nosys:cz kd=0→ ∀b∈sys,RX true b.face:=fun h=>by
  grind
 split at a5
 ·rename_i c
  simp only [Bool.and_eq_true,decide_eq_true_eq] at a5
  exact ⟨r0 a5.1,nosys (by subst c;decide)⟩
 split at a5
 ·rename_i c
  simp only [Bool.and_eq_true,decide_eq_true_eq] at a5
  exact ⟨r0 a5.1,nosys (by subst c;decide)⟩
 split at a5
 ·rename_i c
  rw [Bool.and_eq_true] at a5
  exact ⟨⟨(fF o4).1 a5.1,fun h=>by grind⟩,nosys (by rcases c with rfl|rfl|rfl<;>decide)⟩
 split at a5
 ·rename_i c
  rw [Bool.and_eq_true] at a5
  subst c
  exact ⟨Q1 o4 a5.1,nosys (by decide)⟩
 ·simp only [Bool.and_eq_true,decide_eq_true_eq] at a5
  refine ⟨r0 a5.2,fun b hb=> ?_⟩
  have:=List.all_eq_true.1 a5.1 b hb
  unfold bX at this
  simp only [Bool.and_eq_true] at this
  exact Q1 (hok.br hb).1.1 this.2.1
theorem Zz {bd pl:Bool} (t:Tm): ∀ {vars dims:Int},OkT t→a6 bd vars dims t=true→(pl=true→oq t=true)→mY pl t:=by
 induction t using gq with
 |h kd n nm r ks sys ih1 ih2=>
  intro vars dims hok h hp
  rw [a6,Bool.and_eq_true,Bool.and_eq_true,Bool.and_eq_true] at h
  obtain ⟨_,a,b,c⟩:=h
  obtain ⟨hr,hb⟩:=FY hok a
  have hok':=hok
  rw [OkT] at hok'
  obtain ⟨_,ok,os⟩:=hok'
  rw [oq] at hp
  simp only [Bool.and_eq_true,Bool.not_eq_true'] at hp
  have hk: ∀ {l:List Tm} {i:Nat},(∀x∈l,∀ {vars dims:Int},OkT x→a6 bd vars dims x=true→(pl=true→oq x=true)→mY pl x)→aZ l→bO bd vars dims kd i l=true→(pl=true→ot l=true)→mX pl l:=by
   intro l
   induction l<;>grind [bO,mX,ot,aZ]
  have hm: ∀ {l:List Tm},(∀x∈l,∀ {vars dims:Int},OkT x→a6 bd vars dims x=true→(pl=true→oq x=true)→mY pl x)→aZ l→ca bd vars dims kd l=true→(pl=true→ot l=true)→mX pl l:=by
   intro l
   induction l<;>grind [ca,mX,ot,aZ]
  have hs: ∀ {l:List (Br Tm)},(∀b∈l,∀x∈b.kids,∀ {vars dims:Int},OkT x→a6 bd vars dims x=true→(pl=true→oq x=true)→mY pl x)→ba l→(∀b∈l,RX true b.face)→ck bd vars dims kd l=true→(pl=true→FQ l=false∧AF l=true)→si pl l:=by
   intro l
   induction l with
   |nil=>grind [si]
   |cons b l ih=>
    intro h1 h2 h3 h4 h5
    obtain ⟨f,ks'⟩:=b
    rw [ba] at h2
    rw [fc] at h2
    rw [ck,jT,Bool.and_eq_true] at h4
    rw [FQ,List.any_cons,Bool.or_eq_false_iff,AF,NZ,Bool.and_eq_true] at h5
    rw [si,Ji]
    refine ⟨⟨⟨h3 ⟨f,ks'⟩ (by simp),fun e he=> ?_⟩,hm (h1 ⟨f,ks'⟩ (by simp)) h2.1.2 h4.1 fun e=>(h5 e).2.1⟩,ih (fun b hb=>h1 b (by simp [hb])) h2.2 (fun b hb=>h3 b (by simp [hb])) h4.2 fun e=>⟨(h5 e).1.2,(h5 e).2.2⟩⟩
    grind
  grind [mY]
theorem Fm.pl {t:Tm} {pl:Bool} (h:Fm t) (hp:pl=true→oq t=true):mY pl t:=by
 have:=h.2
 unfold bw at this
 split at this
 ·simp_all
 split at this
 ·simp_all
 split at this
 ·rename_i h3;exact Zz t h.1 h3 hp
 omega
end Go.Proofs.YtfkkpkhfjpaafaaGreatDoor
namespace Go.Proofs.YtfkkpkhfjpaafaaGreatDoor
open Go PI
set_option linter.unusedVariables false
set_option linter.unusedSimpArgs false
set_option maxRecDepth 20000
variable {S:Type} {k:Nat}
theorem Zx {kd d:Int}: ∀ {l:List Tm} {i:Nat} {x:Tm},24≤d→bO false (-1) d kd i l=true→x∈l→a6 false (-1) 24 x=true:=by
 intro l
 induction l with
 |nil=>intro i x _ _ h;cases h
 |cons t l ih=>
  intro i x hd h hx
  rw [bO,Bool.and_eq_true] at h
  rcases List.mem_cons.1 hx with rfl|hx
  ·have:=h.1
   rw [B2,m0 x (by have:=gr kd i;omega) (Int.le_refl 24)] at this;exact this
  ·exact ih hd h.2 hx
theorem Fm.kid {t x:Tm} (h:Fm t) (hx:x∈t.kids):Fm x:=by
 obtain ⟨h1,h2,h3⟩:=eU h.2
 have hd:=bY hx
 have hs:au x≤au t:=by have:=Hl t;have:=k_ hx;omega
 refine ⟨h.1.ki hx,pS (by omega) (by omega) ?_⟩
 obtain ⟨kd,n,nm,r,ks,sys⟩:=t
 rw [a6] at h3
 simp only [Bool.false_and,Bool.not_false,Bool.true_and,Bool.and_eq_true] at h3
 exact Zx (Int.le_refl 24) h3.2.1 hx
theorem Fm.brk {t x:Tm} {b:Br Tm} (h:Fm t) (hb:b∈t.sys) (hx:x∈b.kids):Fm x:=by
 obtain ⟨h1,h2,h3⟩:=eU h.2
 have hd:=b8 hb hx
 have hs:au x≤au t:=by have:=Hl t;have:=we hb;have:=k_ hx;omega
 refine ⟨(h.1.bi hb).2 x hx,pS (by omega) (by omega) ?_⟩
 obtain ⟨kd,n,nm,r,ks,sys⟩:=t
 rw [a6] at h3
 simp only [Bool.false_and,Bool.not_false,Bool.true_and,Bool.and_eq_true] at h3
 have:=h3.2.2
 rw [wH,List.all_eq_true] at this
 have:=List.all_eq_true.1 (this b hb) x hx
 rw [m0 x (by have:=dy kd;omega) (Int.le_refl 24)] at this;exact this
theorem Fm.own {t:Tm} (h:Fm t):cL (-1) 24 t=true:=by
 have h3:=(eU h.2).2.2
 cases t
 rw [a6] at h3
 simp only [Bool.false_and,Bool.not_false,Bool.true_and,Bool.and_eq_true] at h3
 exact h3.1
theorem Fm.nk {t:Tm} (h:Fm t):ct t.kind=t.kids.length:=by
 have:=h.own
 cases t
 unfold cL at this
 simp only [Bool.and_eq_true,decide_eq_true_eq] at this
 exact this.1.1
theorem Fm.n0 {t:Tm} (h:Fm t) (hk:t.kind≠1):t.n=0:=by
 have:=h.own
 cases t
 unfold cL at this
 simp only [Bool.and_eq_true,decide_eq_true_eq] at this
 exact this.1.2.1.resolve_left hk
theorem ZI {b:ByteArray} (h:b.size=0):b=ByteArray.empty:=by
 obtain ⟨⟨l⟩⟩:=b
 cases l with
 |nil=>rfl
 |cons c l=>cases h
theorem Fm.nm0 {t:Tm} (h:Fm t) (hk:t.kind≠2):t.name=ByteArray.empty:=by
 have:=h.own
 cases t
 unfold cL at this
 simp only [Bool.and_eq_true,decide_eq_true_eq] at this
 exact ZI (this.1.2.2.1.resolve_left hk)
theorem Fm.kd0 {t:Tm} (h:Fm t):0≤t.kind:=h.rows.no.2.2
theorem Fm.r14 {t:Tm} (h:Fm t) (hk:t.kind=14):RX true t.r:=by
 have:=FY (kd:=t.kind) (n:=t.n) (nm:=t.name) (r:=t.r) (ks:=t.kids) (sys:=t.sys) (by cases t;exact h.1) (by have:=h.own;cases t;exact this)
 have h1:=this.1
 rw [hk] at h1;exact h1
theorem Fm.face {t:Tm} {b:Br Tm} (h:Fm t) (hb:b∈t.sys):RX true b.face:=by
 have:=FY (kd:=t.kind) (n:=t.n) (nm:=t.name) (r:=t.r) (ks:=t.kids) (sys:=t.sys) (by cases t;exact h.1) (by have:=h.own;cases t;exact this)
 exact this.2 b hb
theorem ED {α:Type} {l:List α} {n:Nat} {i:Int} (hi:i=n) {x:α} (h:l[n]? =some x):af l i=some x:=by subst hi;rw [pU];exact h
theorem aiX (hk:F3 k) {t:Tm} {x:Except Int Tm} (hx: ∀e,x= .error e→0<e∧e≤1000) (hx': ∀t,x= .ok t→In k t∧0<t.kind) (ret:Tm×Bool×Int→Option S):pA k t (rE x) ret=ret (iP x):=by
 simp only [pA,IJ,ag hk.fu,ar]
 have hkd:(rE x).kind≠0:=by
  cases hh:x with
  |error e=>have:=hx e hh;show-e≠0;omega
  |ok t=>have:=(hx' t hh).2;show t.kind≠0;omega
 rw [dj hkd,ad,Q3 hk hx fun t h=>⟨(hx' t h).1,by have:=(hx' t h).2;omega⟩]
 cases hh:x with
 |error e=>
  have:=hx e hh
  show ret (ao,e==0,e)=_
  rw [dj (by omega)];rfl
 |ok t=>
  unfold al_ iP
  rw [aD]
  by_cases h:bw t=0
  ·simp only [if_pos h];rfl
  ·simp only [if_neg h]
   show ret (ao,bw t==0,bw t)=_
   rw [dj h]
theorem aiY (t:Tm) (ret:Tm×Bool×Int→Option S):pA k t ao ret=ret (ao,false,0):=by
 simp only [pA,IJ];rfl
end Go.Proofs.YtfkkpkhfjpaafaaGreatDoor
namespace Go.Proofs.YtfkkpkhfjpaafaaGreatDoor
open Go PI
set_option linter.unusedVariables false
set_option linter.unusedSimpArgs false
set_option maxRecDepth 20000
variable {S:Type} {k:Nat}
theorem Dw (n:Int) (b:Br Tm) (l:List (Br Tm)):cv n (b::l)=dc n b.kids+cv n l:=by cases b;rw [cv,Dv]
theorem tz (n:Int) (t:Tm):ac4 n t=(if t.kind=1∧t.n=n then 1 else 0)+(cE n t.kind 0 t.kids+cv n t.sys):=by cases t;rw [ac4];rfl
theorem Z7 {kd:Int}: ∀ {l:List Tm} {i:Nat} {n:Int},(∀x∈l,∀n,ac4 n x≤au x)→cE n kd i l≤ay l:=by
 intro l
 induction l with
 |nil=>intro i n _;rw [cE,ay];omega
 |cons x l ih=>intro i n h;rw [cE,ay];have:=h x (by simp) (n+bz kd i);have:=ih (i:=i+1) (n:=n) fun x hx=>h x (by simp [hx]);omega
theorem Z8: ∀ {l:List Tm} {n:Int},(∀x∈l,∀n,ac4 n x≤au x)→dc n l≤ay l:=by
 intro l
 induction l with
 |nil=>intro n _;rw [dc,ay];omega
 |cons x l ih=>intro n h;rw [dc,ay];have:=h x (by simp) n;have:=ih (n:=n) fun x hx=>h x (by simp [hx]);omega
theorem Z9: ∀ {l:List (Br Tm)} {n:Int},(∀b∈l,∀x∈b.kids,∀n,ac4 n x≤au x)→cv n l≤aI l:=by
 intro l
 induction l with
 |nil=>intro n _;rw [cv,aI];omega
 |cons b l ih=>intro n h;rw [Dw,aI,kZ];have:=Z8 (n:=n) (h b (by simp));have:=ih (n:=n) fun x hx=>h x (by simp [hx]);omega
theorem yr (t:Tm): ∀n,ac4 n t≤au t:=by
 induction t using c7 with
 |h t ih1 ih2=>
  intro n
  rw [tz,rM]
  have:=Z7 (kd:=t.kind) (i:=0) (n:=n) ih1
  have:=Z9 (n:=n) ih2
  split<;>omega
theorem Fm.no_sys {t:Tm} (h:Fm t) (hk:cz t.kind=0):t.sys=[]:=by
 have:=h.own
 cases t
 unfold cL at this
 simp only [Bool.and_eq_true,decide_eq_true_eq] at this
 exact List.length_eq_zero_iff.1 (this.1.2.2.2 hk)
theorem Fm.leaf {t:Tm} (h:Fm t) (hk:t.kind=1):t.kids=[]∧t.sys=[]:=by
 have hn:=h.nk
 rw [hk] at hn
 refine ⟨List.length_eq_zero_iff.1 (by have:ct 1=0:=rfl;omega),h.no_sys (by rw [hk];rfl)⟩
section
variable {hd:Tm→Int→(Int→Option S)→Option S} {t:Tm} {n:Int}
theorem aet (hk:Fu k) (ret:Int→Option S) (rec2:Int→Int→Option S) {v:Int} {x:Br Tm} (hQ: ∀y∈x.kids,∀g,hd y n g=g ((ac4 n y:Nat):Int)) (hl:x.kids.length<1073741824):
  ∀ (r p:List Tm) (m a:Nat),x.kids=p++r→r.length<m→a+dc n r<4611686018427387904→nG hd k ret rec2 n t v x m (a:Int) (p.length:Int)=rec2 (IntKind.wrap .i64 (v+1)) ((a+dc n r:Nat):Int):=by
 intro r
 induction r with
 |nil=>grind [km,dc,nG,xh,ad]
 |cons y r ih=>
  intro p m a h hm ha
  obtain ⟨m,rfl,hm'⟩:=km hm
  obtain ⟨e1,e2,e3,e4⟩:=ln h (by omega)
  have hy:=hQ y (by grind)
  have hz:a+dc n (y::r)=(a+ac4 n y)+dc n r:=by rw [dc];omega
  rw [hz] at ha ⊢
  have hw:IntKind.wrap .i64 ((a:Int)+((ac4 n y:Nat):Int))=((a+ac4 n y:Nat):Int):=by grind [aaf]
  simp only [nG,xh,e1,ae,e2,Option.bind_some,ar,hy,e3,hw,ih (p++[y]) m (a+ac4 n y) e4 hm' ha]
theorem aes (hk:Fu k) (ret:Int→Option S) (hQ: ∀b∈t.sys,∀y∈b.kids,∀g,hd y n g=g ((ac4 n y:Nat):Int)) (hl:t.sys.length<1073741824) (hl': ∀b∈t.sys,b.kids.length<1073741824):
  ∀ (r p:List (Br Tm)) (m a:Nat),t.sys=p++r→r.length<m→a+cv n r<4611686018427387904→ku hd k ret n t m (p.length:Int) (a:Int)=ret ((a+cv n r:Nat):Int):=by
 intro r
 induction r with
 |nil=>grind [km,cv,ku,sE,ad]
 |cons x r ih=>
  intro p m a h hm ha
  obtain ⟨m,rfl,hm'⟩:=km hm
  obtain ⟨e1,e2,e3,e4⟩:=ln h (by omega)
  have hx:x∈t.sys:=by grind
  have hlx:=hl' x hx
  have hz:a+cv n (x::r)=(a+dc n x.kids)+cv n r:=by rw [Dw];omega
  rw [hz] at ha ⊢
  have:=aet (t:=t) (n:=n) (v:=(p.length:Int)) hk ret (ku hd k ret n t m) (hQ x hx) hlx x.kids [] k a rfl (by have:=hk;omega) (by omega)
  simp only [ku,sE,e1,ae,e2,Option.bind_some]
  refine Eq.trans this ?_
  rw [e3,ih (p++[x]) m (a+dc n x.kids) e4 hm' ha]
theorem aer (hk:Fu k) (ret:Int→Option S) (hn:0≤n∧n≤2199023255552) (hQ: ∀y∈t.kids,∀n',0≤n'∧n'≤n+1→ ∀g,hd y n' g=g ((ac4 n' y:Nat):Int)) (hQ': ∀b∈t.sys,∀y∈b.kids,∀g,hd y n g=g ((ac4 n y:Nat):Int)) (ht:OkT t):
  ∀ (r p:List Tm) (m a:Nat),t.kids=p++r→r.length<m→a+cE n t.kind p.length r+cv n t.sys<4611686018427387904→nF hd k ret t n m (p.length:Int) (a:Int)=ret ((a+cE n t.kind p.length r+cv n t.sys:Nat):Int):=by
 obtain ⟨o1,o2,o3,o4,o5,o6,o7⟩:=ht.no
 intro r
 induction r with
 |nil=>
  intro p m a h hm ha
  obtain ⟨m,rfl,hm'⟩:=km hm
  have hz:a+cE n t.kind p.length []=a:=by rw [cE];rfl
  rw [hz] at ha ⊢
  have:=aes hk ret hQ' o7 (fun b hb=>(ht.bi hb).1.2.2) t.sys [] k a rfl (by omega) ha
  grind [nF,sD,ad]
 |cons y r ih=>
  intro p m a h hm ha
  obtain ⟨m,rfl,hm'⟩:=km hm
  obtain ⟨e1,e2,e3,e4⟩:=ln h (by omega)
  have hb:=g7 t.kind p.length
  have hwn:IntKind.wrap .i64 (n+bz t.kind p.length)=n+bz t.kind p.length:=by grind [aaf]
  have hy:=hQ y (by grind) (n+bz t.kind p.length) (by omega)
  have hz:a+cE n t.kind p.length (y::r)=(a+ac4 (n+bz t.kind p.length) y)+cE n t.kind (p++[y]).length r:=by rw [cE,List.length_append,List.length_singleton];omega
  rw [hz] at ha ⊢
  have hw:IntKind.wrap .i64 ((a:Int)+((ac4 (n+bz t.kind p.length) y:Nat):Int))=((a+ac4 (n+bz t.kind p.length) y:Nat):Int):=by grind [aaf]
  simp only [nF,sD,e1,ae,e2,Option.bind_some,ar,ag hk,jE,hwn,hy,e3,hw,ih (p++[y]) m (a+ac4 (n+bz t.kind p.length) y) e4 hm' ha]
end
theorem ai6 (t:Tm): ∀ {k:Nat} {n:Int} (ret:Int→Option S),Fm t→Fd k (am t)→0≤n∧n+am t≤2199023255552→gz k t n ret=ret ((ac4 n t:Nat):Int):=by
 induction t using c7 with
 |h t ih1 ih2=>
  intro k n ret ft hk hn
  obtain ⟨q,rfl,hq,hf⟩:=hk.pos' (alF t)
  have hp:=alF t
  have hz:=ft.siz
  have hc:=yr t n
  by_cases hv:t.kind=1∧t.n=n
  ·obtain ⟨l1,l2⟩:=ft.leaf hv.1
   have:ac4 n t=1:=by rw [tz,if_pos hv,l1,l2,cE,cv]
   rw [this]
   simp only [gz,BU,hv.1,hv.2,beq_self_eq_true,ae];rfl
  have hJ:Ak (gz q) q ret t n q=ret ((ac4 n t:Nat):Int):=by
   obtain ⟨j,rfl⟩: ∃j,q=j+1:=⟨q-1,by have:=hq;omega⟩
   rw [tz,if_neg hv,Nat.zero_add]
   rw [tz] at hc
   have:=aer (t:=t) (n:=n) hq ret (by omega) (fun y hy n' hn' g=>ih1 y hy g (ft.kid hy) (hf _ (bY hy)) ⟨hn'.1,by have:=bY hy;have:=ft.dep;omega⟩) (fun b hb y hy g=>ih2 b hb y hy g (ft.brk hb hy) (hf _ (b8 hb hy)) ⟨hn.1,by have:=b8 hb hy;omega⟩) ft.ok t.kids [] (j+1) 0 rfl (by have:=ft.ok.no.2.2.2.2.2.1;have:=hq;omega) (by simp;omega)
   simpa [Ak,xg] using this
  simp only [gz,BU,hJ]
  by_cases h1:t.kind=1
  ·rw [h1,beq_self_eq_true,ae,beq_false_of_ne (fun h=>hv ⟨h1,h⟩),ad]
  ·rw [beq_false_of_ne h1,ad]
section
variable {hd:Tm→Int→(Int→Option S)→Option S} {t:Tm} {n:Int}
theorem ae9 (hk:Fu k) (ret:Int→Option S) (rec2:Int→Int→Option S) {v:Int} {x:Br Tm} (hv:af t.sys v=some x) (hQ: ∀y∈x.kids,∀g,hd y n g=g ((ac4 n y:Nat):Int)) (hl:x.kids.length<1073741824):
  ∀ (r p:List Tm) (m a:Nat),x.kids=p++r→r.length<m→a+dc n r<4611686018427387904→nW hd k ret rec2 t n v m (p.length:Int) (a:Int)=rec2 ((a+dc n r:Nat):Int) (IntKind.wrap .i64 (v+1)):=by
 intro r
 induction r with
 |nil=>grind [km,dc,nW,xU,ad]
 |cons y r ih=>
  intro p m a h hm ha
  obtain ⟨m,rfl,hm'⟩:=km hm
  obtain ⟨e1,e2,e3,e4⟩:=ln h (by omega)
  have hy:=hQ y (by grind)
  have hz:a+dc n (y::r)=(a+ac4 n y)+dc n r:=by rw [dc];omega
  rw [hz] at ha ⊢
  have hw:IntKind.wrap .i64 ((a:Int)+((ac4 n y:Nat):Int))=((a+ac4 n y:Nat):Int):=by grind [aaf]
  simp only [nW,xU,hv,e1,ae,e2,Option.bind_some,ar,hy,e3,hw,ih (p++[y]) m (a+ac4 n y) e4 hm' ha]
theorem ae8 (hk:Fu k) (ret:Int→Option S) (hQ: ∀b∈t.sys,∀y∈b.kids,∀g,hd y n g=g ((ac4 n y:Nat):Int)) (hl:t.sys.length<1073741824) (hl': ∀b∈t.sys,b.kids.length<1073741824):
  ∀ (r p:List (Br Tm)) (m a:Nat),t.sys=p++r→r.length<m→a+cv n r<4611686018427387904→kG hd k ret t n m (a:Int) (p.length:Int)=ret ((a+cv n r:Nat):Int):=by
 intro r
 induction r with
 |nil=>grind [km,cv,kG,tc,ad]
 |cons x r ih=>
  intro p m a h hm ha
  obtain ⟨m,rfl,hm'⟩:=km hm
  obtain ⟨e1,e2,e3,e4⟩:=ln h (by omega)
  have hx:x∈t.sys:=by grind
  have hlx:=hl' x hx
  have hz:a+cv n (x::r)=(a+dc n x.kids)+cv n r:=by rw [Dw];omega
  rw [hz] at ha ⊢
  have:=ae9 (t:=t) (n:=n) (v:=(p.length:Int)) hk ret (kG hd k ret t n m) e2 (hQ x hx) hlx x.kids [] k a rfl (by have:=hk;omega) (by omega)
  simp only [kG,tc,e1,ae]
  refine Eq.trans this ?_
  rw [e3,ih (p++[x]) m (a+dc n x.kids) e4 hm' ha]
theorem ae7 (hk:Fu k) (ret:Int→Option S) (hn:0≤n∧n≤2199023255552) (hQ: ∀y∈t.kids,∀n',0≤n'∧n'≤n+1→ ∀g,hd y n' g=g ((ac4 n' y:Nat):Int)) (hQ': ∀b∈t.sys,∀y∈b.kids,∀g,hd y n g=g ((ac4 n y:Nat):Int)) (ht:OkT t):
  ∀ (r p:List Tm) (m a:Nat),t.kids=p++r→r.length<m→a+cE n t.kind p.length r+cv n t.sys<4611686018427387904→nV hd k ret t n m (a:Int) (p.length:Int)=ret ((a+cE n t.kind p.length r+cv n t.sys:Nat):Int):=by
 obtain ⟨o1,o2,o3,o4,o5,o6,o7⟩:=ht.no
 intro r
 induction r with
 |nil=>
  intro p m a h hm ha
  obtain ⟨m,rfl,hm'⟩:=km hm
  have hz:a+cE n t.kind p.length []=a:=by rw [cE];rfl
  rw [hz] at ha ⊢
  have:=ae8 hk ret hQ' o7 (fun b hb=>(ht.bi hb).1.2.2) t.sys [] k a rfl (by omega) ha
  grind [nV,tb,ad]
 |cons y r ih=>
  intro p m a h hm ha
  obtain ⟨m,rfl,hm'⟩:=km hm
  obtain ⟨e1,e2,e3,e4⟩:=ln h (by omega)
  have hb:=g7 t.kind p.length
  have hwn:IntKind.wrap .i64 (n+bz t.kind p.length)=n+bz t.kind p.length:=by grind [aaf]
  have hy:=hQ y (by grind) (n+bz t.kind p.length) (by omega)
  have hz:a+cE n t.kind p.length (y::r)=(a+ac4 (n+bz t.kind p.length) y)+cE n t.kind (p++[y]).length r:=by rw [cE,List.length_append,List.length_singleton];omega
  rw [hz] at ha ⊢
  have hw:IntKind.wrap .i64 ((a:Int)+((ac4 (n+bz t.kind p.length) y:Nat):Int))=((a+ac4 (n+bz t.kind p.length) y:Nat):Int):=by grind [aaf]
  simp only [nV,tb,e1,ae,e2,Option.bind_some,ar,ag hk,anP hk,hwn,hy,e3,hw,ih (p++[y]) m (a+ac4 (n+bz t.kind p.length) y) e4 hm' ha]
end
theorem ajl (t:Tm): ∀ {k:Nat} {n:Int} (ret:Int→Option S),Fm t→Fd k (am t)→0≤n∧n+am t≤2199023255552→amB k t n ret=ret ((ac4 n t:Nat):Int):=by
 induction t using c7 with
 |h t ih1 ih2=>
  intro k n ret ft hk hn
  obtain ⟨q,rfl,hq,hf⟩:=hk.pos' (alF t)
  have hp:=alF t
  have hz:=ft.siz
  have hc:=yr t n
  have hJ: ∀a:Nat,a+(cE n t.kind 0 t.kids+cv n t.sys)≤20000→Ap (amB q) q ret t n q (a:Int)=ret ((a+(cE n t.kind 0 t.kids+cv n t.sys):Nat):Int):=by
   intro a ha
   obtain ⟨j,rfl⟩: ∃j,q=j+1:=⟨q-1,by have:=hq;omega⟩
   have:=ae7 (t:=t) (n:=n) hq ret (by omega) (fun y hy n' hn' g=>ih1 y hy g (ft.kid hy) (hf _ (bY hy)) ⟨hn'.1,by have:=bY hy;have:=ft.dep;omega⟩) (fun b hb y hy g=>ih2 b hb y hy g (ft.brk hb hy) (hf _ (b8 hb hy)) ⟨hn.1,by have:=b8 hb hy;omega⟩) ft.ok t.kids [] (j+1) a rfl (by have:=ft.ok.no.2.2.2.2.2.1;have:=hq;omega) (by simp;omega)
   simpa [Ap,xS,Nat.add_assoc] using this
  rw [tz] at hc ⊢
  simp only [amB,IB]
  by_cases h1:t.kind=1
  ·rw [h1,beq_self_eq_true,ae]
   by_cases h2:t.n=n
   ·rw [h2,beq_self_eq_true,ae,if_pos ⟨rfl,rfl⟩]
    rw [if_pos ⟨h1,h2⟩] at hc
    have:=hJ 1 (by omega)
    rw [h1] at this
    exact this
   ·rw [beq_false_of_ne h2,ad,if_neg (fun h=>h2 h.2)]
    rw [if_neg (fun h=>h2 h.2)] at hc
    have:=hJ 0 (by omega)
    rw [h1] at this
    exact this
  ·rw [beq_false_of_ne h1,ad,if_neg (fun h=>h1 h.1)]
   rw [if_neg (fun h=>h1 h.1)] at hc
   exact hJ 0 (by omega)
end Go.Proofs.YtfkkpkhfjpaafaaGreatDoor
namespace Go.Proofs.YtfkkpkhfjpaafaaGreatDoor
open Go PI
set_option linter.unusedVariables false
set_option linter.unusedSimpArgs false
set_option maxRecDepth 20000
variable {S:Type} {k:Nat}
theorem N3 (n:Int) (u:Tm) (v d kd:Int) (b:Br Tm) (l:List (Br Tm)):dn n u v d kd (b::l)=bE (bE (amj n u v d kd b.kids) fun ks'=> .ok (.mk b.face ks')) fun b'=>bE (dn n u v d kd l) fun l'=> .ok (b'::l'):=by cases b;rw [dn,AJ]
theorem agP (t:Tm) (ret:Int→Option S):ze k t ret=ret (av t.kind):=by
 simp only [ze,Ta,av]
 by_cases h:t.kind=15
 ·rw [h];rfl
 ·rw [beq_false_of_ne h,if_neg h];rfl
theorem Fm.r1 {t:Tm} (h:Fm t) (hk:t.kind=1):t.r=[]:=by
 have:=h.own
 obtain ⟨kd,n,nm,r,ks,sys⟩:=t
 have hk:kd=1:=hk
 subst hk
 unfold cL at this
 simp only [Bool.and_eq_true,decide_eq_true_eq,if_true] at this
 exact List.length_eq_zero_iff.1 this.2.1
section
variable {hd:Tm→Int→Tm→Int→Int→(Pan Int Tm→Option S)→Option S} {t u:Tm} {n v d:Int}
theorem afl (hk:Fu k) (ret:Pan Int Tm→Option S) (rec1:List (Br Tm)→Int→Option S) {ks:List Tm} {o:List (Br Tm)} {x:Br Tm} {i:Int} (hd0:0≤d∧d<4611686018427387904) (hQ: ∀y∈x.kids,∀g:Pan Int Tm→Option S,hd y n u v (d+av t.kind) g=g (pE (akT n u v (d+av t.kind) y))) (hl:x.kids.length<1073741824) (ho:o.length<1073741824):
  ∀ (r p acc:List Tm) (m:Nat),x.kids=p++r→r.length<m→acc.length+r.length<1073741824→
   nH hd k ret rec1 t ks o x u n v d i m acc (p.length:Int)=eE (amj n u v d t.kind r) (fun l=>rec1 (o++[.mk x.face (acc++l)]) (IntKind.wrap .i64 (i+1))) fun e=>ret (.pan e):=by
 have hm1:=dy t.kind
 have hwd:IntKind.wrap .i64 (d+av t.kind)=d+av t.kind:=by grind [aaf]
 intro r
 induction r with
 |nil=>
  intro p acc m h hm ha
  obtain ⟨m,rfl,hm'⟩:=km hm
  simp only [nH,xj,akb h,ad,amj,aP,List.append_nil]
  rw [sf (by simp;omega)]
 |cons y r ih=>
  intro p acc m h hm ha
  obtain ⟨m,rfl,hm'⟩:=km hm
  obtain ⟨e1,e2,e3,e4⟩:=ln h (by omega)
  rw [List.length_cons] at ha
  simp only [nH,xj,e1,ae,e2,Option.bind_some,ar,ag hk,agP,hwd,hQ y (by rw [h];simp),e3,amj]
  rw [sb,ij]
  refine ad3 (fun y' _=> ?_) fun e _=>rfl
  rw [sf (by simp;omega),ih (p++[y]) (acc++[y']) m e4 hm' (by rw [List.length_append,List.length_singleton];omega),sb]
  refine ad3 (fun l _=> ?_) fun e _=>rfl
  rw [aP,List.append_assoc];rfl
theorem afk (hk:Fu k) (ret:Pan Int Tm→Option S) {ks:List Tm} (ht:OkT t) (hd0:0≤d∧d<4611686018427387904) (hQ: ∀b∈t.sys,∀y∈b.kids,∀g:Pan Int Tm→Option S,hd y n u v (d+av t.kind) g=g (pE (akT n u v (d+av t.kind) y))):
  ∀ (r p acc:List (Br Tm)) (m:Nat),t.sys=p++r→r.length<m→acc.length+r.length<1073741824→
   kw hd k ret t ks u n v d m acc (p.length:Int)=eE (dn n u v d t.kind r) (fun l=>ret (.ok (.mk t.kind 0 t.name t.r ks (acc++l)))) fun e=>ret (.pan e):=by
 intro r
 induction r with
 |nil=>
  intro p acc m h hm ha
  obtain ⟨m,rfl,hm'⟩:=km hm
  simp only [kw,sG,akb h,ad,dn,aP,List.append_nil]
 |cons x r ih=>
  intro p acc m h hm ha
  obtain ⟨m,rfl,hm'⟩:=km hm
  have hts:=ht.no.2.2.2.2.2.2
  obtain ⟨e1,e2,e3,e4⟩:=ln h (by omega)
  have hx:x∈t.sys:=by rw [h];simp
  obtain ⟨⟨f1,f2,f3⟩,_⟩:=ht.bi hx
  rw [List.length_cons] at ha
  simp only [kw,sG,e1,ae,e2,Option.bind_some]
  rw [sf (by omega)]
  refine (afl (o:=acc) (i:=(p.length:Int)) hk ret (kw hd k ret t ks u n v d m) hd0 (hQ x hx) f3 (by omega) x.kids [] [] k rfl (by have:=hk;omega) (by simpa using f3)).trans ?_
  rw [N3,sb,sb]
  refine ad3 (fun l _=> ?_) fun e _=>rfl
  rw [aP,List.nil_append,e3]
  refine (ih (p++[x]) (acc++[Br.mk x.face l]) m e4 hm' (by rw [List.length_append,List.length_singleton];omega)).trans ?_
  rw [sb]
  refine ad3 (fun l _=> ?_) fun e _=>rfl
  rw [aP,List.append_assoc];rfl
theorem afj (hk:Fu k) (ret:Pan Int Tm→Option S) (ht:OkT t) (hv0:0≤v∧v<4611686018427387904) (hd0:0≤d∧d<4611686018427387904) (hQ: ∀y∈t.kids,∀a b,0≤a∧a≤1→0≤b∧b≤1→ ∀g:Pan Int Tm→Option S,hd y n u (v+a) (d+b) g=g (pE (akT n u (v+a) (d+b) y)))
  (hQ': ∀b∈t.sys,∀y∈b.kids,∀g:Pan Int Tm→Option S,hd y n u v (d+av t.kind) g=g (pE (akT n u v (d+av t.kind) y))):
  ∀ (r p acc:List Tm) (m:Nat),t.kids=p++r→r.length<m→acc.length+r.length<1073741824→
   qj hd k ret t u n v d m acc (p.length:Int)=eE (dX n u v d t.kind p.length r) (fun l=>eE (dn n u v d t.kind t.sys) (fun l'=>ret (.ok (.mk t.kind 0 t.name t.r (acc++l) l'))) fun e=>ret (.pan e)) fun e=>ret (.pan e):=by
 obtain ⟨o1,o2,o3,o4,o5,o6,o7⟩:=ht.no
 intro r
 induction r with
 |nil=>
  intro p acc m h hm ha
  obtain ⟨m,rfl,hm'⟩:=km hm
  simp only [qj,sF,akb h,ad,dX,aP,List.append_nil]
  exact afk hk ret ht hd0 hQ' t.sys [] [] k rfl (by have:=hk;omega) (by simpa using o7)
 |cons y r ih=>
  intro p acc m h hm ha
  obtain ⟨m,rfl,hm'⟩:=km hm
  obtain ⟨e1,e2,e3,e4⟩:=ln h (by omega)
  have bv:=g7 t.kind p.length
  have bd:=gr t.kind p.length
  have wv:IntKind.wrap .i64 (v+bz t.kind p.length)=v+bz t.kind p.length:=by grind [aaf]
  have wd:IntKind.wrap .i64 (d+bJ t.kind p.length)=d+bJ t.kind p.length:=by grind [aaf]
  rw [List.length_cons] at ha
  simp only [qj,sF,e1,ae,e2,Option.bind_some,ar,ag hk,jE,wv,wd,hQ y (by rw [h];simp) _ _ bv bd,e3,dX]
  rw [sb,ij]
  refine ad3 (fun y' _=> ?_) fun e _=>rfl
  rw [sf (by simp;omega),ih (p++[y]) (acc++[y']) m e4 hm' (by rw [List.length_append,List.length_singleton];omega),sb,List.length_append,List.length_singleton]
  refine ad3 (fun l _=> ?_) fun e _=>rfl
  rw [aP,List.append_assoc];rfl
end
theorem ajw {u:Tm} {n:Int} (fu:Fm u) (hn:0≤n∧n≤1099511627776) (t:Tm): ∀ {k:Nat} {v d:Int} (ret:Pan Int Tm→Option S),Fm t→4294968296+am t≤k→0≤v∧v+am t≤1000→0≤d∧d+am t≤1000→gA k t n u v d ret=ret (pE (akT n u v d t)):=by
 induction t using c7 with
 |h t ih1 ih2=>
  intro k v d ret ft hk hv hd
  have hp:=alF t
  obtain ⟨q,rfl⟩: ∃q,k=q+1:=⟨k-1,by omega⟩
  have h3:F3 q:=by unfold F3;omega
  have hfu:=h3.fu
  have wn:IntKind.wrap .i64 (n+v)=n+v:=by grind [aaf]
  have hpe:akT n u v d t=if t.kind=1∧t.n=n+v then su v d u else bE (dX n u v d t.kind 0 t.kids) fun ks'=>bE (dn n u v d t.kind t.sys) fun sys'=> .ok (.mk t.kind (if t.kind=1∧t.n>n+v then t.n-1 else t.n) t.name t.r ks' sys'):=by
   obtain ⟨kd,m,nm,r,ks,sys⟩:=t;rw [akT];rfl
  simp only [gA,H2,wn,ag hfu,ar]
  by_cases h1:t.kind=1
  ·obtain ⟨l1,l2⟩:=ft.leaf h1
   have hbe:(t.kind==1)=true:=by rw [h1];rfl
   rw [hbe,ae,hpe]
   by_cases h2:t.n=n+v
   ·rw [h2,beq_self_eq_true,ae,if_pos ⟨h1,rfl⟩,He h3 fu (by omega) (by omega)]
    cases hh:su v d u with
    |error e=>
     have he:=al3 hh
     rw [show (tE (.error e)).2=e from rfl,dj (show e≠0 by omega)];rfl
    |ok y=>rfl
   ·rw [beq_false_of_ne h2,ad,if_neg (fun h=>h2 h.2),l1,l2,dX,dn,aD,aD]
    have hr:t.r=[]:=ft.r1 h1
    have hnm:t.name=ByteArray.empty:=ft.nm0 (by omega)
    by_cases h4:t.n>n+v
    ·have hi:=ft.ok.no.2.1
     have wt:IntKind.wrap .i64 (t.n-1)=t.n-1:=by unfold aG at hi;exact aaf (by omega) (by omega)
     rw [decide_eq_true h4,ae,if_pos ⟨h1,h4⟩,wt,h1,hr,hnm];rfl
    ·rw [decide_eq_false h4,ad,if_neg (fun h=>h4 h.2),←l1,←l2]
     cases t;rfl
  ·rw [beq_false_of_ne h1,ad,hpe,if_neg (fun h=>h1 h.1),if_neg (fun h=>h1 h.1),ft.n0 h1]
   obtain ⟨o1,o2,o3,o4,o5,o6,o7⟩:=ft.ok.no
   rw [sf (by omega)]
   have hQ: ∀y∈t.kids,∀a b,0≤a∧a≤1→0≤b∧b≤1→ ∀g:Pan Int Tm→Option S,gA q y n u (v+a) (d+b) g=g (pE (akT n u (v+a) (d+b) y)):=fun y hy a b ha hb g=>by
    have:=bY hy
    exact ih1 y hy g (ft.kid hy) (by omega) (by omega) (by omega)
   have hQ': ∀b∈t.sys,∀y∈b.kids,∀g:Pan Int Tm→Option S,gA q y n u v (d+av t.kind) g=g (pE (akT n u v (d+av t.kind) y)):=fun b hb y hy g=>by
    have:=b8 hb hy
    have:=dy t.kind
    exact ih2 b hb y hy g (ft.brk hb hy) (by omega) (by omega) (by omega)
   have:=afj (t:=t) (u:=u) (n:=n) (v:=v) (d:=d) hfu ret ft.ok (by omega) (by omega) hQ hQ' t.kids [] [] q rfl (by omega) (by simpa using o6)
   refine this.trans ?_
   refine Eq.trans ?_ (Qx _ ret).symm
   rw [sb]
   refine ad3 (fun l _=> ?_) fun e _=>rfl
   rw [sb]
   refine ad3 (fun l' _=> ?_) fun e _=>rfl
   rw [aP,List.nil_append]
end Go.Proofs.YtfkkpkhfjpaafaaGreatDoor
namespace Go.Proofs.YtfkkpkhfjpaafaaGreatDoor
open Go PI
set_option linter.unusedVariables false
set_option linter.unusedSimpArgs false
set_option maxRecDepth 20000
variable {S:Type} {k:Nat}
section
variable {hd:Tm→(Int→Option S)→Option S} {t:Tm}
theorem af6 (hk:Fu k) (ret:Bool×Int→Option S) (rec1:Int→Int→Int→Option S) {v more:Int} {x:Br Tm} (hQ: ∀y∈x.kids,∀g,hd y g=g ((au y:Nat):Int)) (hl:x.kids.length<1073741824):
  ∀ (r p:List Tm) (m a:Nat),x.kids=p++r→r.length<m→a+ay r<4611686018427387904→n4 hd k ret rec1 t v x more m (a:Int) (p.length:Int)=rec1 ((a+ay r:Nat):Int) (IntKind.wrap .i64 (v+1)) more:=by
 intro r
 induction r with
 |nil=>grind [km,ay,n4,yj,ad]
 |cons y r ih=>
  intro p m a h hm ha
  obtain ⟨m,rfl,hm'⟩:=km hm
  obtain ⟨e1,e2,e3,e4⟩:=ln h (by omega)
  have hy:=hQ y (by grind)
  have hz:a+ay (y::r)=(a+au y)+ay r:=by rw [ay];omega
  rw [hz] at ha ⊢
  have hw:IntKind.wrap .i64 ((a:Int)+((au y:Nat):Int))=((a+au y:Nat):Int):=by grind [aaf]
  simp only [n4,yj,e1,ae,e2,Option.bind_some,ar,ag hk,ug,IR,hy,e3,hw,Bool.not_true,ad,ih (p++[y]) m (a+au y) e4 hm' ha]
theorem af5 (hk:Fu k) (ret:Bool×Int→Option S) {more:Int} (hQ: ∀b∈t.sys,∀y∈b.kids,∀g,hd y g=g ((au y:Nat):Int)) (hl:t.sys.length<1073741824) (hl': ∀b∈t.sys,b.kids.length<1073741824):
  ∀ (r p:List (Br Tm)) (m a:Nat),t.sys=p++r→r.length<m→a+aI r<4611686018427387904→kM hd k ret t m (a:Int) (p.length:Int) more=ret (true,((a+aI r:Nat):Int)):=by
 intro r
 induction r with
 |nil=>grind [km,aI,kM,tr,ad]
 |cons x r ih=>
  intro p m a h hm ha
  obtain ⟨m,rfl,hm'⟩:=km hm
  obtain ⟨e1,e2,e3,e4⟩:=ln h (by omega)
  have hx:x∈t.sys:=by grind
  have hlx:=hl' x hx
  have hz:a+aI (x::r)=(a+ay x.kids)+aI r:=by rw [aI,kZ];omega
  rw [hz] at ha ⊢
  have:=af6 (t:=t) (v:=(p.length:Int)) (more:=more) hk ret (kM hd k ret t m) (hQ x hx) hlx x.kids [] k a rfl (by have:=hk;omega) (by omega)
  simp only [kM,tr,e1,ae,e2,Option.bind_some]
  refine Eq.trans this ?_
  rw [e3,ih (p++[x]) m (a+ay x.kids) e4 hm' ha]
theorem af4 (hk:Fu k) (ret:Bool×Int→Option S) (hQ: ∀y∈t.kids,∀g,hd y g=g ((au y:Nat):Int)) (hQ': ∀b∈t.sys,∀y∈b.kids,∀g,hd y g=g ((au y:Nat):Int)) (ht:OkT t):
  ∀ (r p:List Tm) (m a:Nat),t.kids=p++r→r.length<m→a+ay r+aI t.sys<4611686018427387904→qT hd k ret t m (a:Int) (p.length:Int)=ret (true,((a+ay r+aI t.sys:Nat):Int)):=by
 obtain ⟨o1,o2,o3,o4,o5,o6,o7⟩:=ht.no
 intro r
 induction r with
 |nil=>
  intro p m a h hm ha
  obtain ⟨m,rfl,hm'⟩:=km hm
  have hz:a+ay []=a:=by rfl
  rw [hz] at ha ⊢
  have:=fun more=>af5 (more:=more) hk ret hQ' o7 (fun b hb=>(ht.bi hb).1.2.2) t.sys [] k a rfl (by have:=hk;omega) ha
  simp only [qT,tq,akb h,ad]
  cases (t.kind==15)
  ·rw [ad];exact this 0
  ·rw [ae];exact this 1
 |cons y r ih=>
  intro p m a h hm ha
  obtain ⟨m,rfl,hm'⟩:=km hm
  obtain ⟨e1,e2,e3,e4⟩:=ln h (by omega)
  have hy:=hQ y (by grind)
  have hz:a+ay (y::r)=(a+au y)+ay r:=by rw [ay];omega
  rw [hz] at ha ⊢
  have hw:IntKind.wrap .i64 ((a:Int)+((au y:Nat):Int))=((a+au y:Nat):Int):=by grind [aaf]
  simp only [qT,tq,e1,ae,e2,Option.bind_some,ar,ag hk,jE,ug,IR,hy,e3,hw,Bool.not_true,ad,ih (p++[y]) m (a+au y) e4 hm' ha]
theorem aeA (hk:Fu k) (ret:Bool×Int→Option S) (rec1:Int→Int→Int→Option S) {v more:Int} {x:Br Tm} (hQ: ∀y∈x.kids,∀g,hd y g=g ((am y:Nat):Int)) (hl:x.kids.length<1073741824):
  ∀ (r p:List Tm) (m a:Nat),x.kids=p++r→r.length<m→n5 hd k ret rec1 t v x more m (a:Int) (p.length:Int)=rec1 ((max a (aH r):Nat):Int) (IntKind.wrap .i64 (v+1)) more:=by
 intro r
 induction r with
 |nil=>grind [km,aH,n5,yk,ad]
 |cons y r ih=>
  intro p m a h hm
  obtain ⟨m,rfl,hm'⟩:=km hm
  obtain ⟨e1,e2,e3,e4⟩:=ln h (by omega)
  have hy:=hQ y (by grind)
  have hz:max a (aH (y::r))=max (max a (am y)) (aH r):=by rw [aH];omega
  rw [hz]
  have hw:(if ((am y:Nat):Int)>(a:Int) then ((am y:Nat):Int) else (a:Int))=((max a (am y):Nat):Int):=by split<;>omega
  simp only [n5,yk,e1,ae,e2,Option.bind_some,ar,ag hk,uf,IQ,hy,e3,hw,Bool.not_true,ad,ih (p++[y]) m (max a (am y)) e4 hm']
theorem aez (hk:Fu k) (ret:Bool×Int→Option S) {more:Int} (hQ: ∀b∈t.sys,∀y∈b.kids,∀g,hd y g=g ((am y:Nat):Int)) (hl:t.sys.length<1073741824) (hl': ∀b∈t.sys,b.kids.length<1073741824):
  ∀ (r p:List (Br Tm)) (m a:Nat),t.sys=p++r→r.length<m→kN hd k ret t m (a:Int) (p.length:Int) more=ret (true,((max a (aO r):Nat):Int)):=by
 intro r
 induction r with
 |nil=>grind [km,aO,kN,tu,ad]
 |cons x r ih=>
  intro p m a h hm
  obtain ⟨m,rfl,hm'⟩:=km hm
  obtain ⟨e1,e2,e3,e4⟩:=ln h (by omega)
  have hx:x∈t.sys:=by grind
  have hlx:=hl' x hx
  have hz:max a (aO (x::r))=max (max a (aH x.kids)) (aO r):=by rw [aO,pD];omega
  rw [hz]
  have:=aeA (t:=t) (v:=(p.length:Int)) (more:=more) hk ret (kN hd k ret t m) (hQ x hx) hlx x.kids [] k a rfl (by have:=hk;omega)
  simp only [kN,tu,e1,ae,e2,Option.bind_some]
  refine Eq.trans this ?_
  rw [e3,ih (p++[x]) m (max a (aH x.kids)) e4 hm']
theorem aey (hk:Fu k) (ret:Bool×Int→Option S) (hQ: ∀y∈t.kids,∀g,hd y g=g ((am y:Nat):Int)) (hQ': ∀b∈t.sys,∀y∈b.kids,∀g,hd y g=g ((am y:Nat):Int)) (ht:OkT t):
  ∀ (r p:List Tm) (m a:Nat),t.kids=p++r→r.length<m→qU hd k ret t m (a:Int) (p.length:Int)=ret (true,((max (max a (aH r)) (aO t.sys):Nat):Int)):=by
 obtain ⟨o1,o2,o3,o4,o5,o6,o7⟩:=ht.no
 intro r
 induction r with
 |nil=>
  intro p m a h hm
  obtain ⟨m,rfl,hm'⟩:=km hm
  have hz:max a (aH [])=a:=by rw [aH];omega
  rw [hz]
  have:=fun more=>aez (more:=more) hk ret hQ' o7 (fun b hb=>(ht.bi hb).1.2.2) t.sys [] k a rfl (by have:=hk;omega)
  simp only [qU,tt,akb h,ad]
  cases (t.kind==15)
  ·rw [ad];exact this 0
  ·rw [ae];exact this 1
 |cons y r ih=>
  intro p m a h hm
  obtain ⟨m,rfl,hm'⟩:=km hm
  obtain ⟨e1,e2,e3,e4⟩:=ln h (by omega)
  have hy:=hQ y (by grind)
  have hz:max a (aH (y::r))=max (max a (am y)) (aH r):=by rw [aH];omega
  rw [hz]
  have hw:(if ((am y:Nat):Int)>(a:Int) then ((am y:Nat):Int) else (a:Int))=((max a (am y):Nat):Int):=by split<;>omega
  simp only [qU,tt,e1,ae,e2,Option.bind_some,ar,ag hk,jE,uf,IQ,hy,e3,hw,Bool.not_true,ad,ih (p++[y]) m (max a (am y)) e4 hm']
end
theorem Q_ (t:Tm):OkT t→ ∀ {k:Nat} (ret:Int→Option S),Fd k (am t)→au t<4611686018427387904→j6 k t ret=ret ((au t:Nat):Int):=by
 induction t using c7 with
 |h t ih1 ih2=>
  intro ht k ret hk hs
  obtain ⟨q,rfl,hq,hf⟩:=hk.pos' (alF t)
  have hz:=rM t
  have:=af4 hq (fun r=>ret r.2) (fun y hy g=>ih1 y hy (ht.ki hy) g (hf _ (bY hy)) (by have:=k_ hy;omega)) (fun b hb y hy g=>ih2 b hb y hy ((ht.bi hb).2 y hy) g (hf _ (b8 hb hy)) (by have:=k_ hy;have:=we hb;omega)) ht t.kids [] q 1 rfl (by have:=ht.no.2.2.2.2.2.1;have:=hq;omega) (by omega)
  simp only [j6,TS,ag hq,ar,DY,IW]
  refine this.trans ?_
  rw [hz,Nat.add_assoc]
theorem aiK (t:Tm):OkT t→ ∀ {k:Nat} (ret:Int→Option S),Fd k (am t)→am t<4611686018427387904→j5 k t ret=ret ((am t:Nat):Int):=by
 induction t using c7 with
 |h t ih1 ih2=>
  intro ht k ret hk hs
  obtain ⟨q,rfl,hq,hf⟩:=hk.pos' (alF t)
  have hz:=pF t
  have:=aey hq (fun r=>ret (IntKind.wrap .i64 (r.2+1))) (fun y hy g=>ih1 y hy (ht.ki hy) g (hf _ (bY hy)) (by have:=bY hy;omega)) (fun b hb y hy g=>ih2 b hb y hy ((ht.bi hb).2 y hy) g (hf _ (b8 hb hy)) (by have:=b8 hb hy;omega)) ht t.kids [] q 0 rfl (by have:=ht.no.2.2.2.2.2.1;have:=hq;omega)
  simp only [j5,TO,ag hq,ar,DZ,IX]
  refine this.trans ?_
  have hw:IntKind.wrap .i64 (((max (max 0 (aH t.kids)) (aO t.sys):Nat):Int)+1)=((am t:Nat):Int):=by
   rw [aaf (by omega) (by omega)];omega
  rw [hw]
end Go.Proofs.YtfkkpkhfjpaafaaGreatDoor
namespace Go.Proofs.YtfkkpkhfjpaafaaGreatDoor
open Go PI
set_option linter.unusedVariables false
set_option linter.unusedSimpArgs false
set_option maxRecDepth 20000
variable {S:Type} {k:Nat}
abbrev F4 (k:Nat):Prop:=4294970296≤k
theorem F4.f3 (h:F4 k):F3 k:=by have:4294970296≤k:=h;unfold F3;omega
def ri (n:Int) (t u:Tm):Except Int Tm:=fmE t (fmE u (ams n t u))
theorem ajv (hk4:F4 k) {t u:Tm} (ht:In k t) (hu:In k u) {n:Int} (hn:0≤n∧n≤1000000) (ret:Tm×Int→Option S):zd k t n u ret=ret (tE (ri n t u)):=by
 have hk:=hk4.f3
 simp only [zd,S_,ag hk.fu,ar,amv ht.1 ht.2.1 ht.dep,amv hu.1 hu.2.1 hu.dep]
 unfold ri
 by_cases h1:bw t=0
 case neg=>rw [dj h1,Bool.not_false,ae];unfold fmE;rw [if_neg h1];rfl
 by_cases h2:bw u=0
 case neg=>rw [h1,show (!((0:Int)==0))=false from rfl,ad,dj h2,Bool.not_false,ae];unfold fmE;rw [if_pos h1,if_neg h2];rfl
 have ft:Fm t:=⟨ht.1,h1⟩
 have fu:Fm u:=⟨hu.1,h2⟩
 have hc:=yr t n
 have z1:=ft.siz;have z2:=fu.siz;have z3:=mB u;have d1:=ft.dep;have d2:=fu.dep
 have hk':4294970296≤k:=hk4
 have hif:(if 1099511627776<n then (1099511627776:Int) else n)=n:=if_neg (by omega)
 have hmul:ac4 n t*(au u-1)≤20000*20000:=Nat.mul_le_mul (by omega) (by omega)
 have hw1:IntKind.wrap .i64 ((au u:Int)-1)=((au u-1:Nat):Int):=by rw [aaf (by omega) (by omega)];omega
 have hw2:IntKind.wrap .i64 ((ac4 n t:Int)*((au u-1:Nat):Int))=((ac4 n t*(au u-1):Nat):Int):=by
  rw [←Int.natCast_mul];exact aaf (by omega) (by omega)
 have hw3:IntKind.wrap .i64 ((au t:Int)+((ac4 n t*(au u-1):Nat):Int))=((au t+ac4 n t*(au u-1):Nat):Int):=by
  rw [←Int.natCast_add];exact aaf (by omega) (by omega)
 rw [h1,h2,show (!((0:Int)==0))=false from rfl,ad,ad,decide_eq_false (by omega),ad]
 simp only [hif]
 rw [Q_ t ft.ok _ (ft.fd hk) (by omega),ai6 t _ ft (ft.fd hk) (by omega),Q_ u fu.ok _ (fu.fd hk) (by omega),hw1,hw2,hw3]
 unfold fmE
 rw [if_pos h1,if_pos h2]
 unfold ams
 by_cases h3:au t+ac4 n t*(au u-1)>20000
 ·rw [decide_eq_true (by omega),ae,if_pos h3];rfl
 rw [decide_eq_false (by omega),ad,if_neg h3,ajw fu (by omega) t _ ft (by omega) (by omega) (by omega),ij]
 cases hp:akT n u 0 0 t with
 |error e=>rfl
 |ok o=>
  rw [aP,aD]
  have hall:=(eU ft.2).2.2
  obtain ⟨q1,q2,q3,q4⟩:=F8 fu (by omega) t (v:=0) (d:=0) (by omega) (by omega) (by omega) ft.ok hall hp
  show j5 k o _=_
  rw [aiK o q1 _ (hk.fd (by omega)) (by omega)]
  by_cases h4:am o>200
  ·rw [decide_eq_true (by omega),ae,if_pos h4];rfl
  ·rw [decide_eq_false (by omega),ad,if_neg h4];rfl
end Go.Proofs.YtfkkpkhfjpaafaaGreatDoor
namespace Go.Proofs.YtfkkpkhfjpaafaaGreatDoor
open Go PI
set_option linter.unusedVariables false
set_option linter.unusedSimpArgs false
set_option maxRecDepth 20000
variable {S:Type} {k:Nat}
theorem I8 {t:Tm} (h:t.kids.length=2): ∃a b,t.kids=[a,b]:=by
 match h':t.kids,h with
 |[a,b],_=>exact ⟨a,b,rfl⟩
theorem Fm.sy {t:Tm} (h:Fm t) (hk:t.kind=15):(∀b∈t.sys,b.kids=[wl b]∧Fm (wl b)∧RX true b.face)∧t.sys.length≤20000:=by
 have ho:=h.own
 refine ⟨fun b hb=> ?_, ?_⟩
 ·have hl:b.kids.length=1:=by
   obtain ⟨kd,n,nm,r,ks,sys⟩:=t
   have hk:kd=15:=hk
   subst hk
   have ho:(_&&(sys.all (bX 15 24)&&_))=true:=ho
   simp only [Bool.and_eq_true] at ho
   have:=List.all_eq_true.1 ho.2.1 b hb
   unfold bX at this
   simp only [Bool.and_eq_true,decide_eq_true_eq] at this
   have h1:=this.1
   have:cz 15=1:=rfl
   omega
  obtain ⟨f,ks⟩:=b
  match ks,hl with
  |[a],_=>exact ⟨rfl,h.brk hb (by simp [wl]),h.face hb⟩
 ·have h1:=h.siz
  have h2:=Hl t
  have: ∀ {l:List (Br Tm)},(∀b∈l,b.kids≠[])→l.length≤aI l:=by
   intro l
   induction l with
   |nil=>intro _;simp
   |cons b l ih=>
    intro hl
    have:=ih fun b hb=>hl b (by simp [hb])
    have hb:=hl b (by simp)
    obtain ⟨f,ks⟩:=b
    cases ks with
    |nil=>exact absurd rfl hb
    |cons a ks=>rw [aI,fG,ay,List.length_cons];have:=mB a;omega
  have:=this (l:=t.sys) fun b hb=>by
   intro he
   obtain ⟨kd,n,nm,r,ks,sys⟩:=t
   have hk:kd=15:=hk
   subst hk
   have ho:(_&&(sys.all (bX 15 24)&&_))=true:=ho
   simp only [Bool.and_eq_true] at ho
   have:=List.all_eq_true.1 ho.2.1 b hb
   unfold bX at this
   simp only [Bool.and_eq_true,decide_eq_true_eq] at this
   have h1:=this.1
   rw [he] at h1
   have:cz 15=1:=rfl
   simp at h1;omega
  omega
end Go.Proofs.YtfkkpkhfjpaafaaGreatDoor
namespace Go.Proofs.YtfkkpkhfjpaafaaGreatDoor
open Go PI
set_option linter.unusedVariables false
set_option linter.unusedSimpArgs false
set_option maxRecDepth 20000
variable {S:Type} {k:Nat}
def stE {α:Type} (c:Int) (x:Except Int α):Except Int α:=if c=0 then x else .error c
theorem oH {α:Type} (x:Except Int α):stE 0 x=x:=rfl
theorem lb {α:Type} {c:Int} (h:c≠0) (x:Except Int α):stE c x= .error c:=if_neg h
structure Sm (n:Nat) (t:Tm):Prop where
 ok:OkT t
 siz:au t≤n
 dep:am t≤300
theorem Sm.mono {n m:Nat} {t:Tm} (h:Sm n t) (hnm:n≤m):Sm m t:=⟨h.ok,by have:=h.siz;omega,h.dep⟩
theorem Sm.isIn {n:Nat} {t:Tm} (h:Sm n t) (hk:F3 k) (hn:n<1099511627776):In k t:=⟨h.ok,hk.fd (by have:=h.dep;omega),by have:=h.siz;omega⟩
structure Bs' (n:Nat) (l:List (Br Tm)):Prop where
 ok:ba l
 siz:aI l≤l.length*n
 dep:aO l≤301
theorem Dp (n:Nat):Bs' n []:=⟨by rw [ba];trivial,by rw [aI];simp,by rw [aO];omega⟩
theorem Ju {n:Nat} {l:List (Br Tm)} (h:Bs' n l) {f:List Cl} (hf:aq f∧f.length<1073741824) {t:Tm} (ht:Sm n t):Bs' n (l++[⟨f,[t]⟩]):=by
 refine ⟨NQ h.ok ?_, ?_, ?_⟩
 ·rw [ba,fc,aZ,aZ,ba];exact ⟨⟨⟨hf.1,hf.2,by simp⟩,ht.ok,trivial⟩,trivial⟩
 ·rw [R1,aI,fG,ay,ay,aI,List.length_append,List.length_singleton,Nat.succ_mul]
  have:=h.siz;have:=ht.siz;omega
 ·rw [zF,aO,eB,aH,aH,aO]
  have:=h.dep;have:=ht.dep;omega
theorem Hn {kd:Int} (hkd:0≤kd∧kd≤28) {r:List Cl} (hr:aq r∧r.length<1073741824) {ks:List Tm} {sys:List (Br Tm)} {n m:Nat} (hks: ∀x∈ks,OkT x∧am x≤299) (hl:ks.length<1000) (hz:ay ks≤n) (hs:ba sys) (hsl:sys.length<1073741824) (hsd:aO sys≤299) (hsz:aI sys≤m):Sm (n+m+1) (.mk kd 0 ByteArray.empty r ks sys):=by
 have hd:aH ks≤299:=by
  have: ∀ {l:List Tm},(∀x∈l,am x≤299)→aH l≤299:=by
   intro l
   induction l with
   |nil=>intro _;rw [aH];omega
   |cons t l ih=>intro h;rw [aH];have:=h t (by simp);have:=ih fun x hx=>h x (by simp [hx]);omega
  exact this fun x hx=>(hks x hx).2
 refine ⟨?_, ?_, ?_⟩
 ·rw [OkT]
  exact ⟨⟨by unfold aG;omega,by unfold aG;omega,by decide,hr.1,hr.2,by omega,hsl⟩,okK_iff.2 fun x hx=>(hks x hx).1,hs⟩
 ·rw [au];omega
 ·rw [am];omega
theorem EC {t:Tm} {a b:Tm} (h:t.kids=[a,b]):t.kids.getD 0 ao=a∧t.kids.getD 1 ao=b:=by rw [h];exact ⟨rfl,rfl⟩
theorem G9 {fa:Bool} {f:List Cl} (h:RX fa f):aq f∧f.length<1073741824:=⟨h.1.2,by have:=h.1.len;omega⟩
end Go.Proofs.YtfkkpkhfjpaafaaGreatDoor
namespace Go.Proofs.YtfkkpkhfjpaafaaGreatDoor
open Go PI
set_option linter.unusedVariables false
set_option linter.unusedSimpArgs false
set_option maxRecDepth 20000
variable {S:Type} {k:Nat}
theorem E5 {t:Tm} (h:Fm t) {kd:Int} (hk:t.kind=kd) {n:Nat} (hn:ct kd=n):t.kids.length=n:=by
 have:=h.nk
 rw [hk,hn] at this;omega
theorem KQ {t a b:Tm} (h:t.kids=[a,b]):af t.kids 0=some a∧af t.kids 1=some b:=by rw [h];exact ⟨rfl,rfl⟩
end Go.Proofs.YtfkkpkhfjpaafaaGreatDoor
namespace Go.Proofs.YtfkkpkhfjpaafaaGreatDoor
open Go PI
set_option linter.unusedVariables false
set_option linter.unusedSimpArgs false
set_option maxRecDepth 20000
variable {S:Type} {k:Nat}
theorem KN {vb db v d:Int} {t:Tm} (h:Fm t):Gd (acr vb db v d t):=⟨fun e he=>amo t he,fun y hy=>by rw [am8 hy];exact h.rows.no.2.2⟩
theorem aj5 {α:Type} (c:Bool) (a:α):ab c a a=a:=by cases c<;>rfl
end Go.Proofs.YtfkkpkhfjpaafaaGreatDoor
namespace Go.Proofs.YtfkkpkhfjpaafaaGreatDoor
open Go PI
set_option linter.unusedVariables false
set_option linter.unusedSimpArgs false
set_option maxRecDepth 20000
variable {S:Type} {k:Nat}
theorem Rz {x:Except Int Tm} (hx:Gd x) (ret:Tm×Int→Option S):amP k (rE x) ret=ret (tE x):=by
 simp only [amP,Ix]
 cases hh:x with
 |error e=>
  have he:=hx.en e hh
  rw [show rE (.error e)=bh e from rfl,amC he.1,ae]
  show ret (ao,IntKind.wrap .i64 (0- -e))=ret (ao,e)
  rw [aaf (by omega) (by omega)];congr 2;omega
 |ok y=>
  have:=hx.kd y hh
  rw [show rE (.ok y)=y from rfl,decide_eq_false (by omega),ad,ar];rfl
theorem ajx (hk:F3 k) {t:Tm} (ht:Fm t) {vb db:Int} (hvb:0≤vb∧vb≤1000000) (hdb:0≤db∧db<9223372036854775808) (ret:Tm×Int→Option S):zq k t vb db ret=ret (tE (su vb db t)):=by
 obtain ⟨q,rfl⟩: ∃q,k=q+1:=⟨k-1,by have:4294968296≤k:=hk;omega⟩
 have hvars: ∀g:Tm×Int→Option S,zt (q+1) t 0 vb g=g (tE (acr vb 0 0 0 t)):=fun g=>by
  simp only [zt,Iw,E_,Dh,ag hk.fu,ar,t6,Iz,anQ ht.ok (ht.fd hk) (show au t<1099511627776 by have:=ht.siz;omega),ht.2]
  rw [show ((0:Int)==0)=true from rfl,ae,decide_eq_false (by omega),ad,decide_eq_false (by omega),ad]
  rw [decide_eq_false (by omega),ad,ae,Bool.not_true,ad,decide_eq_false (by omega),ad,anR (by omega) (by omega) t ht.ok ht.rows _ (ht.fd hk) (ht.vp (by omega) (by omega))]
  rw [Rz (KN ht)]
 simp only [zq,Iv,E9,Dg,ag hk.fu,ar,hvars]
 unfold su
 cases hh:acr vb 0 0 0 t with
 |error e=>
  have he:=amo t hh
  rw [show (tE (.error e)).2=e from rfl,dj (show e≠0 by omega),ad,Bool.not_false,ae,decide_eq_false (by omega),ad];rfl
 |ok y=>
  have fy:=jr (by omega) ht hh
  rw [show (tE (.ok y)).2=0 from rfl,show ((0:Int)==0)=true from rfl,ae,decide_eq_false (by omega),ad,Bool.not_true,ad]
  show alI (q+1) y 0 0 0 db _=_
  rw [anR (by omega) (by omega) y fy.ok fy.rows _ (fy.fd hk) (fy.vp (by omega) (by omega)),Rz (KN fy),aD]
end Go.Proofs.YtfkkpkhfjpaafaaGreatDoor
namespace Go.Proofs.YtfkkpkhfjpaafaaGreatDoor
open Go PI
set_option linter.unusedVariables false
set_option linter.unusedSimpArgs false
set_option maxRecDepth 20000
variable {S:Type} {k:Nat}
theorem F6 (n:Int) (u:Tm) (v d:Int) (t:Tm):akT n u v d t=if t.kind=1∧t.n=n+v then su v d u else bE (dX n u v d t.kind 0 t.kids) fun ks'=>bE (dn n u v d t.kind t.sys) fun sys'=> .ok (.mk t.kind (if t.kind=1∧t.n>n+v then t.n-1 else t.n) t.name t.r ks' sys'):=by
 obtain ⟨kd,m,nm,r,ks,sys⟩:=t;rw [akT];rfl
theorem Ez {u t:Tm} (fu:Fm u) (ft:Fm t) {n v d:Int}:Gd (akT n u v d t):=by
 refine ⟨fun e h=>F7 t h,fun o h=> ?_⟩
 rw [F6] at h
 split at h
 ·rw [B1 h];exact fu.rows.no.2.2
 ·obtain ⟨a,_,h⟩:=sm h
  obtain ⟨b,_,h⟩:=sm h
  injection h with h
  subst h
  exact ft.rows.no.2.2
section
variable {hd:Tm→Int→Tm→Int→Int→(Tm→Option S)→Option S} {t u:Tm} {n v d:Int}
theorem KO {x:Except Int Tm} (hx:Gd x) (f:Tm→Option S) (ret:Tm→Option S):ab (decide ((rE x).kind<0)) (ret (rE x)) (f (rE x))=eE x f fun e=>ret (bh e):=
 rm (fun e h=>(hx.en e h).1) hx.kd f ret
theorem afU (hk:Fu k) (ret:Tm→Option S) (rec3:List (Br Tm)→Int→Option S) {ks:List Tm} {b1:Int} {o:List (Br Tm)} {x:Br Tm} {i:Int} (hi:af t.sys i=some x) (hd0:0≤d∧d<4611686018427387904) (hG: ∀y∈x.kids,Gd (akT n u v (d+av t.kind) y)) (hQ: ∀y∈x.kids,∀g:Tm→Option S,hd y n u v (d+av t.kind) g=g (rE (akT n u v (d+av t.kind) y))) (hl:x.kids.length<1073741824) (ho:o.length<1073741824):
  ∀ (r p acc:List Tm) (m:Nat),x.kids=p++r→r.length<m→acc.length+r.length<1073741824→
   mf hd k ret rec3 t b1 ks o x u n i v d m acc (p.length:Int)=eE (amj n u v d t.kind r) (fun l=>rec3 (o++[.mk x.face (acc++l)]) (IntKind.wrap .i64 (i+1))) fun e=>ret (bh e):=by
 have hm1:=dy t.kind
 have hwd:IntKind.wrap .i64 (d+av t.kind)=d+av t.kind:=by grind [aaf]
 intro r
 induction r with
 |nil=>
  intro p acc m h hm ha
  obtain ⟨m,rfl,hm'⟩:=km hm
  simp only [mf,xV,hi,Option.bind_some,akb h,ad,amj,aP,List.append_nil]
  rw [sf (by simp;omega)]
 |cons y r ih=>
  intro p acc m h hm ha
  obtain ⟨m,rfl,hm'⟩:=km hm
  obtain ⟨e1,e2,e3,e4⟩:=ln h (by omega)
  rw [List.length_cons] at ha
  have hmore: ∀g:Int→Option S,am2 k t.kind g=g (av t.kind):=fun g=>BE t.kind g
  simp only [mf,xV,hi,e1,ae,e2,Option.bind_some,ar,ag hk,hmore,hwd,hQ y (by rw [h];simp),e3,amj]
  refine (KO (hG y (by rw [h];simp)) (fun r12=>Option.bind (aw 1099511627776 acc.length [r12].length) fun _=>mf hd k ret rec3 t b1 ks o x u n i v d m (acc++[r12]) (((p++[y]).length:Nat):Int)) ret).trans ?_
  rw [sb]
  refine ad3 (fun y' _=> ?_) fun e _=>rfl
  rw [sf (by simp;omega),ih (p++[y]) (acc++[y']) m e4 hm' (by rw [List.length_append,List.length_singleton];omega),sb]
  refine ad3 (fun l _=> ?_) fun e _=>rfl
  rw [aP,List.append_assoc];rfl
theorem afT (hk:Fu k) (ret:Tm→Option S) {ks:List Tm} {b1:Int} (ht:OkT t) (hd0:0≤d∧d<4611686018427387904) (hG: ∀b∈t.sys,∀y∈b.kids,Gd (akT n u v (d+av t.kind) y)) (hQ: ∀b∈t.sys,∀y∈b.kids,∀g:Tm→Option S,hd y n u v (d+av t.kind) g=g (rE (akT n u v (d+av t.kind) y))):
  ∀ (r p acc:List (Br Tm)) (m:Nat),t.sys=p++r→r.length<m→acc.length+r.length<1073741824→
   kH hd k ret t b1 ks u n v d m acc (p.length:Int)=eE (dn n u v d t.kind r) (fun l=>ret (.mk t.kind b1 t.name t.r ks (acc++l))) fun e=>ret (bh e):=by
 intro r
 induction r with
 |nil=>
  intro p acc m h hm ha
  obtain ⟨m,rfl,hm'⟩:=km hm
  simp only [kH,te,akb h,ad,dn,aP,List.append_nil]
 |cons x r ih=>
  intro p acc m h hm ha
  obtain ⟨m,rfl,hm'⟩:=km hm
  have hts:=ht.no.2.2.2.2.2.2
  obtain ⟨e1,e2,e3,e4⟩:=ln h (by omega)
  have hx:x∈t.sys:=by rw [h];simp
  obtain ⟨⟨f1,f2,f3⟩,_⟩:=ht.bi hx
  rw [List.length_cons] at ha
  simp only [kH,te,e1,ae,e2,Option.bind_some]
  refine (afU (o:=acc) (b1:=b1) (i:=(p.length:Int)) hk ret (kH hd k ret t b1 ks u n v d m) e2 hd0 (hG x hx) (hQ x hx) f3 (by omega) x.kids [] [] k rfl (by have:=hk;omega) (by simpa using f3)).trans ?_
  rw [N3,sb,sb]
  refine ad3 (fun l _=> ?_) fun e _=>rfl
  rw [aP,List.nil_append,e3]
  refine (ih (p++[x]) (acc++[Br.mk x.face l]) m e4 hm' (by rw [List.length_append,List.length_singleton];omega)).trans ?_
  rw [sb]
  refine ad3 (fun l _=> ?_) fun e _=>rfl
  rw [aP,List.append_assoc];rfl
theorem afS (hk:Fu k) (ret:Tm→Option S) {b1:Int} (ht:OkT t) (hv0:0≤v∧v<4611686018427387904) (hd0:0≤d∧d<4611686018427387904) (hG: ∀y∈t.kids,∀a b,Gd (akT n u (v+a) (d+b) y)) (hQ: ∀y∈t.kids,∀a b,0≤a∧a≤1→0≤b∧b≤1→ ∀g:Tm→Option S,hd y n u (v+a) (d+b) g=g (rE (akT n u (v+a) (d+b) y)))
  (hG': ∀b∈t.sys,∀y∈b.kids,Gd (akT n u v (d+av t.kind) y)) (hQ': ∀b∈t.sys,∀y∈b.kids,∀g:Tm→Option S,hd y n u v (d+av t.kind) g=g (rE (akT n u v (d+av t.kind) y))):
  ∀ (r p acc:List Tm) (m:Nat),t.kids=p++r→r.length<m→acc.length+r.length<1073741824→
   me hd k ret t b1 u n v d m acc (p.length:Int)=eE (dX n u v d t.kind p.length r) (fun l=>eE (dn n u v d t.kind t.sys) (fun l'=>ret (.mk t.kind b1 t.name t.r (acc++l) l')) fun e=>ret (bh e)) fun e=>ret (bh e):=by
 obtain ⟨o1,o2,o3,o4,o5,o6,o7⟩:=ht.no
 intro r
 induction r with
 |nil=>
  intro p acc m h hm ha
  obtain ⟨m,rfl,hm'⟩:=km hm
  simp only [me,td,akb h,ad,dX,aP,List.append_nil]
  exact afT hk ret ht hd0 hG' hQ' t.sys [] [] k rfl (by have:=hk;omega) (by simpa using o7)
 |cons y r ih=>
  intro p acc m h hm ha
  obtain ⟨m,rfl,hm'⟩:=km hm
  obtain ⟨e1,e2,e3,e4⟩:=ln h (by omega)
  have bv:=g7 t.kind p.length
  have bd:=gr t.kind p.length
  have wv:IntKind.wrap .i64 (v+bz t.kind p.length)=v+bz t.kind p.length:=by grind [aaf]
  have wd:IntKind.wrap .i64 (d+bJ t.kind p.length)=d+bJ t.kind p.length:=by grind [aaf]
  rw [List.length_cons] at ha
  simp only [me,td,e1,ae,e2,Option.bind_some,ar,ag hk,anP hk,wv,wd,hQ y (by rw [h];simp) _ _ bv bd,e3,dX]
  refine (KO (hG y (by rw [h];simp) _ _) (fun r5=>Option.bind (aw 1099511627776 acc.length [r5].length) fun _=>me hd k ret t b1 u n v d m (acc++[r5]) (((p++[y]).length:Nat):Int)) ret).trans ?_
  rw [sb]
  refine ad3 (fun y' _=> ?_) fun e _=>rfl
  rw [sf (by simp;omega),ih (p++[y]) (acc++[y']) m e4 hm' (by rw [List.length_append,List.length_singleton];omega),sb,List.length_append,List.length_singleton]
  refine ad3 (fun l _=> ?_) fun e _=>rfl
  rw [aP,List.append_assoc];rfl
end
end Go.Proofs.YtfkkpkhfjpaafaaGreatDoor
namespace Go.Proofs.YtfkkpkhfjpaafaaGreatDoor
open Go PI
set_option linter.unusedVariables false
set_option linter.unusedSimpArgs false
set_option maxRecDepth 20000
variable {S:Type} {k:Nat}
theorem ajR {u:Tm} {n:Int} (fu:Fm u) (hn:0≤n∧n≤1099511627776) (t:Tm): ∀ {k:Nat} {v d:Int} (ret:Tm→Option S),Fm t→4294968296+am t≤k→0≤v∧v+am t≤1000→0≤d∧d+am t≤1000→alZ k t n u v d ret=ret (rE (akT n u v d t)):=by
 induction t using c7 with
 |h t ih1 ih2=>
  intro k v d ret ft hk hv hd
  have hp:=alF t
  obtain ⟨q,rfl⟩: ∃q,k=q+1:=⟨k-1,by omega⟩
  have h3:F3 q:=by unfold F3;omega
  have hfu:=h3.fu
  have wn:IntKind.wrap .i64 (n+v)=n+v:=by grind [aaf]
  have hi:=ft.ok.no.2.1
  unfold aG at hi
  obtain ⟨o1,o2,o3,o4,o5,o6,o7⟩:=ft.ok.no
  have hQ: ∀y∈t.kids,∀a b,0≤a∧a≤1→0≤b∧b≤1→ ∀g:Tm→Option S,alZ q y n u (v+a) (d+b) g=g (rE (akT n u (v+a) (d+b) y)):=fun y hy a b ha hb g=>by
   have:=bY hy
   exact ih1 y hy g (ft.kid hy) (by omega) (by omega) (by omega)
  have hQ': ∀b∈t.sys,∀y∈b.kids,∀g:Tm→Option S,alZ q y n u v (d+av t.kind) g=g (rE (akT n u v (d+av t.kind) y)):=fun b hb y hy g=>by
   have:=b8 hb hy
   have:=dy t.kind
   exact ih2 b hb y hy g (ft.brk hb hy) (by omega) (by omega) (by omega)
  have hJ: ∀b1:Int,anu (alZ q) q ret t u n v d q b1=eE (dX n u v d t.kind 0 t.kids) (fun l=>eE (dn n u v d t.kind t.sys) (fun l'=>ret (.mk t.kind b1 t.name t.r l l')) fun e=>ret (bh e)) fun e=>ret (bh e):=fun b1=>by
   have:=afS (b1:=b1) (t:=t) (u:=u) (n:=n) (v:=v) (d:=d) hfu ret ft.ok (by omega) (by omega) (fun y hy a b=>Ez fu (ft.kid hy)) hQ (fun b hb y hy=>Ez fu (ft.brk hb hy)) hQ' t.kids [] [] q rfl (by omega) (by simpa using o6)
   obtain ⟨j,rfl⟩: ∃j,q=j+1:=⟨q-1,by omega⟩
   exact this
  have hR: ∀b1:Int,(if t.kind=1∧t.n>n+v then t.n-1 else t.n)=b1→ ¬ (t.kind=1∧t.n=n+v)→eE (dX n u v d t.kind 0 t.kids) (fun l=>eE (dn n u v d t.kind t.sys) (fun l'=>ret (.mk t.kind b1 t.name t.r l l')) fun e=>ret (bh e)) (fun e=>ret (bh e))=ret (rE (akT n u v d t)):=fun b1 hb hc=>by
   rw [F6,if_neg hc,hb]
   refine Eq.trans ?_ (amW _ ret).symm
   rw [sb]
   refine ad3 (fun l _=> ?_) fun e _=>rfl
   rw [sb]
   refine ad3 (fun l' _=> ?_) fun e _=>rfl
   rw [aP]
  have hL:uM (alZ q) q ret t u n v d q=oU (alZ q) q ret t u n v d (fun b1=>anu (alZ q) q ret t u n v d q b1):=by
   have: ∀m,0<m→uM (alZ q) q ret t u n v d m=oU (alZ q) q ret t u n v d (fun b1=>anu (alZ q) q ret t u n v d q b1):=fun m hm=>by
    cases m with
    |zero=>omega
    |succ m=>rfl
   exact this q (by omega)
  show BW (alZ q) q ret (uM (alZ q) q ret t u n v d q) t n u v d=_
  rw [hL]
  simp only [BW,oU,wn,ag hfu,ar,hJ]
  by_cases h1:t.kind=1
  ·have hbe:(t.kind==1)=true:=by rw [h1];rfl
   rw [hbe,ae,ae]
   by_cases h2:t.n=n+v
   ·rw [F6,if_pos ⟨h1,h2⟩,h2,beq_self_eq_true,ae,ajx h3 fu (by omega) (by omega)]
    cases hh:su v d u with
    |error e=>
     have he:=al3 hh
     rw [show (tE (.error e)).2=e from rfl,dj (show e≠0 by omega),Bool.not_false,ae,amu he];rfl
    |ok y=>rfl
   ·rw [beq_false_of_ne h2,ad]
    by_cases h4:t.n>n+v
    ·have wt:IntKind.wrap .i64 (t.n-1)=t.n-1:=aaf (by omega) (by omega)
     rw [decide_eq_true h4,ae,wt]
     exact hR _ (if_pos ⟨h1,h4⟩) fun h=>h2 h.2
    ·rw [decide_eq_false h4,ad]
     exact hR _ (if_neg fun h=>h4 h.2) fun h=>h2 h.2
  ·rw [beq_false_of_ne h1,ad,ad]
   exact hR _ (if_neg fun h=>h1 h.1) fun h=>h1 h.1
theorem ajz (hk4:F4 k) {t u:Tm} (ft:Fm t) (fu:Fm u) {n:Int} (hn:0≤n∧n≤1000000) (ret:Tm→Option S):t7 k t n u ret=ret (rE (ams n t u)):=by
 have hk:=hk4.f3
 have hk':4294970296≤k:=hk4
 have hc:=yr t n
 have z1:=ft.siz;have z2:=fu.siz;have z3:=mB u;have d1:=ft.dep;have d2:=fu.dep
 have hmul:ac4 n t*(au u-1)≤20000*20000:=Nat.mul_le_mul (by omega) (by omega)
 have hw1:IntKind.wrap .i64 ((au u:Int)-1)=((au u-1:Nat):Int):=by rw [aaf (by omega) (by omega)];omega
 have hw2:IntKind.wrap .i64 ((ac4 n t:Int)*((au u-1:Nat):Int))=((ac4 n t*(au u-1):Nat):Int):=by
  rw [←Int.natCast_mul];exact aaf (by omega) (by omega)
 have hw3:IntKind.wrap .i64 ((au t:Int)+((ac4 n t*(au u-1):Nat):Int))=((au t+ac4 n t*(au u-1):Nat):Int):=by
  rw [←Int.natCast_add];exact aaf (by omega) (by omega)
 simp only [t7,IA,ag hk.fu,ar]
 rw [decide_eq_false (by have:=ft.rows.no.2.2;omega),ad,decide_eq_false (by have:=fu.rows.no.2.2;omega),ad,Hg t ft.ok _ (ft.fd hk) (by omega),ajl t _ ft (ft.fd hk) (by omega),Hg u fu.ok _ (fu.fd hk) (by omega),hw1,hw2,hw3]
 unfold ams
 by_cases h3:au t+ac4 n t*(au u-1)>20000
 ·rw [decide_eq_true (by omega),ae,if_pos h3,amu (by omega)];rfl
 rw [decide_eq_false (by omega),ad,if_neg h3,ajR fu (by omega) t _ ft (by omega) (by omega) (by omega)]
 cases hp:akT n u 0 0 t with
 |error e=>
  have he:=F7 t hp
  rw [lk,show rE (.error e)=bh e from rfl,decide_eq_false (show ¬ ((bh e).kind≥0) from by show ¬ (-e≥0);omega),ad]
 |ok o=>
  have hkd:=(Ez fu ft).kd o hp
  have hall:=(eU ft.2).2.2
  obtain ⟨q1,q2,q3,q4⟩:=F8 fu (by omega) t (v:=0) (d:=0) (by omega) (by omega) (by omega) ft.ok hall hp
  rw [aD,show rE (.ok o)=o from rfl,decide_eq_true (show o.kind≥0 from hkd),ae,RH o q1 _ (hk.fd (by omega)) (by omega)]
  by_cases h4:am o>200
  ·rw [decide_eq_true (by omega),ae,if_pos h4,amu (by omega)];rfl
  ·rw [decide_eq_false (by omega),ad,if_neg h4];rfl
end Go.Proofs.YtfkkpkhfjpaafaaGreatDoor
namespace Go.Proofs.YtfkkpkhfjpaafaaGreatDoor
open Go PI
set_option linter.unusedVariables false
set_option linter.unusedSimpArgs false
set_option maxRecDepth 20000
variable {S:Type} {k:Nat}
theorem aeW (hk:Fu k) (ret:Tm×Int→Option S) {c0 c2:Int} {c1:Tm} {ns:List Int} (hl:ns.length<1000) (hn: ∀x∈ns,0≤x):
  ∀ (r p:List Int) (m:Nat),ns=p++r→r.length<m→nD k ret c0 c1 c2 ns m (p.length:Int)=yY k c0 c1 c2 fun r4=>Pan.elim r4 (fun r4=>ret (r4,0)) fun e5=>ret (ao,e5):=by
 intro r
 induction r with
 |nil=>
  intro p m h hm
  obtain ⟨m,rfl,hm'⟩:=km hm
  simp only [nD,xb,akb h,ad,ag hk,ar];rfl
 |cons x r ih=>
  intro p m h hm
  obtain ⟨m,rfl,hm'⟩:=km hm
  obtain ⟨e1,e2,e3,e4⟩:=ln h (by omega)
  have hx:=hn x (by grind)
  grind [nD,xb,aY]
theorem ajk (hk:F3 k) {t:Tm} (ht:Fm t) {f b:Int} (hf:0≤f∧f≤1000000) (hb:0≤b∧b≤1000000) (ret:Tm×Int→Option S):pj k t f b ret=ret (tE (acr b 0 f 0 t)):=by
 have hw:IntKind.wrap .i64 (1000000-b)=1000000-b:=aaf (by omega) (by omega)
 have hl:=aeW hk.fu ret (c0:=b) (c2:=f) (c1:=t) (ns:=[f,b,1000000-b]) (by simp) (by grind) [f,b,1000000-b] [] k rfl (by grind)
 have hl:nD k ret b t f [f,b,1000000-b] k 0=_:=hl
 simp only [pj,HX,ag hk.fu,ar,hw,y6,BR,amv ht.ok (ht.fd hk) (show am t<1099511627776 by have:=ht.dep;omega),ht.2,hl,yY,SU]
 rw [show ((0:Int)==0)=true from rfl,Bool.not_true,ad,if_neg (by omega),BA (by omega) (by unfold aG;omega) t ht.ok ht.rows _ (ht.fd hk) (ht.vp (by omega) (by omega)),ij,amt _ ret]
 rfl
def oK (f b:Int) (t:Tm):Except Int Tm:=fmE t (acr b 0 f 0 t)
theorem ai0 (hk:F3 k) {t:Tm} (ht:In k t) {f b:Int} (hf:0≤f∧f≤1000000) (hb:0≤b∧b≤1000000) (ret:Tm×Int→Option S):pj k t f b ret=ret (tE (oK f b t)):=by
 unfold oK fmE
 by_cases h:bw t=0
 ·rw [if_pos h];exact ajk hk ⟨ht.1,h⟩ hf hb ret
 ·rw [if_neg h]
  simp only [pj,HX,ag hk.fu,ar,y6,BR,amv ht.1 ht.2.1 ht.dep,dj h,Bool.not_false,ae];rfl
theorem ahE {n:Int} {t u:Tm}: ∀e,ri n t u= .error e→0<e∧e≤1000:=fun e h=>z7 (fun e h=>z7 (fun e h=>AL h) h) h
theorem Hf (hk:F4 k) {t u:Tm} {c:Int} (ht:c=0→In k t∧In k u) (ret:Tm×Int→Option S):za k t u c ret=ret (mM c (ri 0 t u)):=by
 simp only [za,S7,ag hk.f3.fu,dG,oI,ar,rJ]
 exact Az c (fun h g=>ajv hk (ht h).1 (ht h).2 (by omega) g) (FP ahE) ret
theorem ajm (hk:F3 k) {t a:Tm} {sys:List (Br Tm)} {c:Int} (ht:c=0→In k t∧In k a∧In k (sx sys)) (hx: ∀e,soE [t,a,sx sys] (amg t a sys)= .error e→e≠0) (ret:Tm×Int→Option S):y_ k t a sys c ret=ret (mM c (soE [t,a,sx sys] (amg t a sys))):=by
 simp only [y_,S6,ag hk.fu,dG,oI,ar,rJ]
 exact Az c (fun h g=>aiO hk (ht h).1 (ht h).2.1 (ht h).2.2 g) hx ret
theorem Rx (hk:F3 k) {line a:Tm} {sys:List (Br Tm)} {c:Int} (ht:c=0→In k line∧In k a∧In k (sx sys)) (hx: ∀e,soE [line,a,sx sys] (dF line a sys)= .error e→e≠0) (ret:Tm×Int→Option S):y9 k line a sys c ret=ret (mM c (soE [line,a,sx sys] (dF line a sys))):=by
 simp only [y9,S4,ag hk.fu,dG,oI,ar,rJ]
 exact Az c (fun h g=>aiI hk (ht h).1 (ht h).2.1 (ht h).2.2 g) hx ret
end Go.Proofs.YtfkkpkhfjpaafaaGreatDoor
namespace Go.Proofs.YtfkkpkhfjpaafaaGreatDoor
open Go PI
set_option linter.unusedVariables false
set_option linter.unusedSimpArgs false
set_option maxRecDepth 20000
variable {S:Type} {k:Nat}
theorem ZS {m:Tm} (fm:Fm m):(bE (oK 1 0 m) fun y=>pH 0 1 y)=su 0 1 m:=by
 have hd:=fm.dep
 have h1:oK 1 0 m=acr 0 0 0 0 m:=by
  unfold oK fmE
  rw [if_pos fm.2]
  exact agi m (by omega) (by omega)
 rw [h1]
 unfold su
 cases hh:acr 0 0 0 0 m with
 |error e=>rfl
 |ok y=>
  rw [aD,aD]
  have fy:=jr (by omega) fm hh
  unfold pH fmE
  rw [if_pos fy.2]
theorem Rv (hk:F3 k) {m:Tm} {c:Int} (hm:c=0→Fm m) (ret:Tm×Int→Option S):y8 k m 0 1 c ret=ret (mM c (su 0 1 m)):=by
 simp only [y8,S3,ag hk.fu,dG,oI,ar,rJ]
 by_cases hc:c=0
 case neg=>rw [dj hc,Bool.not_false,ae,n9 hc];rfl
 have fm:=hm hc
 subst hc
 rw [show (!((0:Int)==0))=false from rfl,ad,kR,←ZS fm,ai0 hk (fm.isIn hk) (by omega) (by omega)]
 have hv:oK 1 0 m=acr 0 0 1 0 m:=by unfold oK fmE;rw [if_pos fm.2]
 rw [if_pos rfl,hv]
 cases hh:acr 0 0 1 0 m with
 |error e=>
  have he:=amo m hh
  rw [show (tE (.error e)).2=e from rfl,if_neg (show e≠0 by omega)]
  dsimp only
  rw [dj (show e≠0 by omega),Bool.not_false,ae];rfl
 |ok y=>
  have fy:=jr (by omega) fm hh
  rw [show (tE (.ok y)).2=0 from rfl,show (tE (.ok y)).1=y from rfl,if_pos rfl]
  dsimp only
  rw [show (!((0:Int)==0))=false from rfl,ad,aiM hk (fy.isIn hk) (by omega) (by omega),aD]
  have:=Lw (pH 0 1 y) (FP aak) 0
  rw [kR] at this
  rw [this]
end Go.Proofs.YtfkkpkhfjpaafaaGreatDoor
namespace Go.Proofs.YtfkkpkhfjpaafaaGreatDoor
open Go PI
set_option linter.unusedVariables false
set_option linter.unusedSimpArgs false
set_option maxRecDepth 20000
variable {S:Type} {k:Nat}
def alM:List Tm→Except Int (List Tm)
 |[]=> .ok []
 |y::l=>bE (su 0 1 y) fun y'=>bE (alM l) fun l'=> .ok (y'::l')
abbrev ig (kd:Int) (p:Tm) (l:List Tm) (a:Tm):Tm:= .mk kd 0 ByteArray.empty [] (p::l++[a]) []
def ama (kd:Int) (b:Tm) (mid:List Tm):List (Br Tm)→Except Int (List (Br Tm))
 |[]=> .ok []
 |y::l=>bE (alM mid) fun m=>bE (ama kd b mid l) fun l'=> .ok (.mk y.face [ig kd b m (wl y)]::l')
def amf (kd:Int) (p:Tm) (mid:List Tm) (x:Tm):Except Int Tm:=
 bE (soE [x.kids.getD 0 ao,x.kids.getD 1 ao,sx x.sys] (amg (x.kids.getD 0 ao) (x.kids.getD 1 ao) x.sys)) fun f=>
 bE (su 0 1 p) fun b=>bE (ams 0 b f) fun line=>bE (ama kd b mid x.sys) fun l=>
 soE [line,ig kd p mid (x.kids.getD 1 ao),sx l] (dF line (ig kd p mid (x.kids.getD 1 ao)) l)
def adR (t:Tm):Tm:=t.kids.getD (t.kids.length-1) ao
def ac3 (t:Tm):List Tm:=(t.kids.take (t.kids.length-1)).drop 1
def pP (t:Tm):Tm×Bool×Int:=
 if bw t≠0 then (ao,false,bw t) else
 if (t.kind=22∨t.kind=27)∧(adR t).kind=15 then iP (amf t.kind (t.kids.getD 0 ao) (ac3 t) (adR t)) else (ao,false,0)
theorem Ue: ∀ {l:List Tm} {e:Int},alM l= .error e→0<e∧e≤1000:=by
 intro l
 induction l with
 |nil=>intro e h;cases h
 |cons y l ih=>
  intro e h
  rw [alM] at h
  rcases be h with h|⟨_,_,h⟩
  ·exact al3 h
  rcases be h with h|⟨_,_,h⟩
  ·exact ih h
  ·cases h
theorem acG {kd:Int} {b:Tm} {mid:List Tm}: ∀ {l:List (Br Tm)} {e:Int},ama kd b mid l= .error e→0<e∧e≤1000:=by
 intro l
 induction l with
 |nil=>intro e h;cases h
 |cons y l ih=>
  intro e h
  rw [ama] at h
  rcases be h with h|⟨_,_,h⟩
  ·exact Ue h
  rcases be h with h|⟨_,_,h⟩
  ·exact ih h
  ·cases h
end Go.Proofs.YtfkkpkhfjpaafaaGreatDoor
namespace Go.Proofs.YtfkkpkhfjpaafaaGreatDoor
open Go PI
set_option linter.unusedVariables false
set_option linter.unusedSimpArgs false
set_option maxRecDepth 20000
variable {S:Type} {k:Nat}
theorem aeM (ret:Int×Int×ByteArray×List Tm×Int→Option S) (hk:F3 k) {c0 a:Tm} {c1 e:Int} {mid:List Tm} (hm:List.drop (Int.toNat 1) (List.take (Int.toNat c1) c0.kids)=mid) (hl:mid.length<1073741823):
  ∀ (r p acc:List Tm) (m:Nat),mid=p++r→r.length<m→acc.length+r.length<1073741824→
   kq k ret c0 c1 a 0 m e acc (p.length:Int)=ret (c0.kind,0,ByteArray.empty,acc++r++[a],e):=by
 intro r
 induction r with
 |nil=>
  intro p acc m h hm' ha
  obtain ⟨m,rfl,hm''⟩:=km hm'
  simp only [kq,oS,hm,akb h,ad,ar,ag hk.fu,zc,H1,List.append_nil]
  rw [sf (by simp;simp at ha;omega)]
 |cons y r ih=>
  intro p acc m h hm' ha
  obtain ⟨m,rfl,hm''⟩:=km hm'
  obtain ⟨e1,e2,e3,e4⟩:=ln h (by omega)
  rw [List.length_cons] at ha
  simp only [kq,oS,hm,e1,ae,e2,Option.bind_some,ar,e3]
  rw [show decide ((0:Int)>0)=false from rfl,ad,sf (by simp;omega)]
  refine (ih (p++[y]) (acc++[y]) m e4 hm'' (by rw [List.length_append,List.length_singleton];omega)).trans ?_
  simp
theorem aeN (ret:Int×Int×ByteArray×List Tm×Int→Option S) (hk:F3 k) {c0 a:Tm} {c1:Int} {mid:List Tm} (hm:List.drop (Int.toNat 1) (List.take (Int.toNat c1) c0.kids)=mid) (hl:mid.length<1073741823) (hf: ∀y∈mid,Fm y):
  ∀ (r p acc:List Tm) (m:Nat) (c:Int),mid=p++r→r.length<m→acc.length+r.length<1073741824→
   ∃l,kq k ret c0 c1 a 1 m c acc (p.length:Int)=ret (c0.kind,0,ByteArray.empty,acc++l++[a],match stE c (alM r) with| .ok _=>0| .error e=>e)∧ ∀l',stE c (alM r)= .ok l'→l=l':=by
 intro r
 induction r with
 |nil=>
  intro p acc m c h hm' ha
  obtain ⟨m,rfl,hm''⟩:=km hm'
  refine ⟨[], ?_,fun l' h=> ?_⟩
  ·simp only [kq,oS,hm,akb h,ad,ar,ag hk.fu,zc,H1,List.append_nil]
   rw [sf (by simp;simp at ha;omega)]
   by_cases hc:c=0
   ·subst hc;rfl
   ·rw [lb hc]
  ·by_cases hc:c=0
   ·subst hc;rw [oH,alM] at h;injection h
   ·rw [lb hc] at h;cases h
 |cons y r ih=>
  intro p acc m c h hm' ha
  obtain ⟨m,rfl,hm''⟩:=km hm'
  obtain ⟨e1,e2,e3,e4⟩:=ln h (by omega)
  rw [List.length_cons] at ha
  have fy:Fm y:=hf y (by rw [h];simp)
  have hup:wA 0 1 y=su 0 1 y:=if_pos fy.2
  obtain ⟨l,h1,h2⟩:=ih (p++[y]) (acc++[(mM c (su 0 1 y)).1]) m (mM c (su 0 1 y)).2 e4 hm'' (by rw [List.length_append,List.length_singleton];omega)
  have hst:stE c (alM (y::r))=bE (stE c (su 0 1 y)) fun y'=>bE (stE (mM c (su 0 1 y)).2 (alM r)) fun l'=> .ok (y'::l'):=by
   by_cases hc:c=0
   ·subst hc
    rw [oH,oH,alM,kR]
    cases su 0 1 y with
    |error e=>rfl
    |ok y'=>rfl
   ·rw [lb hc,lb hc];rfl
  refine ⟨(mM c (su 0 1 y)).1::l, ?_,fun l' hl'=> ?_⟩
  ·simp only [kq,oS,hm,e1,ae,e2,Option.bind_some,ar,e3,ag hk.fu]
   rw [show decide ((1:Int)>0)=true from rfl,ae,ajn hk (fun _=>fy.isIn hk) (by omega) (by omega),hup,sf (by simp;omega)]
   refine h1.trans ?_
   rw [hst]
   have hE:(match stE (mM c (su 0 1 y)).2 (alM r) with| .ok _=>(0:Int)| .error e=>e)=match bE (stE c (su 0 1 y)) fun y'=>bE (stE (mM c (su 0 1 y)).2 (alM r)) fun l'=> .ok (y'::l') with| .ok _=>(0:Int)| .error e=>e:=by
    by_cases hc:c=0
    ·subst hc
     rw [oH,kR]
     cases hh:su 0 1 y with
     |error e=>
      have he:=al3 hh
      rw [show (tE (.error e)).2=e from rfl,lb (show e≠0 by omega)];rfl
     |ok y'=>
      rw [show (tE (.ok y')).2=0 from rfl,oH,aD]
      cases alM r<;>rfl
    ·rw [n9 hc,lb hc,lb hc];rfl
   rw [hE]
   simp
  ·rw [hst] at hl'
   obtain ⟨y',g1,hl'⟩:=sm hl'
   obtain ⟨l2,g2,hl'⟩:=sm hl'
   injection hl' with hl'
   subst hl'
   have hc:c=0:=by
    by_cases hc:c=0
    ·exact hc
    ·rw [lb hc] at g1;cases g1
   subst hc
   rw [oH] at g1
   rw [h2 l2 g2,kR,g1];rfl
end Go.Proofs.YtfkkpkhfjpaafaaGreatDoor
namespace Go.Proofs.YtfkkpkhfjpaafaaGreatDoor
open Go PI
set_option linter.unusedVariables false
set_option linter.unusedSimpArgs false
set_option maxRecDepth 20000
variable {S:Type} {k:Nat}
end Go.Proofs.YtfkkpkhfjpaafaaGreatDoor
namespace Go.Proofs.YtfkkpkhfjpaafaaGreatDoor
open Go PI
set_option linter.unusedVariables false
set_option linter.unusedSimpArgs false
set_option maxRecDepth 20000
end Go.Proofs.YtfkkpkhfjpaafaaGreatDoor
namespace Go.Proofs.YtfkkpkhfjpaafaaGreatDoor
open Go PI
set_option linter.unusedVariables false
set_option linter.unusedSimpArgs false
set_option maxRecDepth 20000
section
variable {bd:Bool} {vb db kd:Int}
end
end Go.Proofs.YtfkkpkhfjpaafaaGreatDoor
namespace Go.Proofs.YtfkkpkhfjpaafaaGreatDoor
open Go PI
set_option linter.unusedVariables false
set_option linter.unusedSimpArgs false
set_option maxRecDepth 20000
section
variable {bd:Bool} {r:List Cl} {c kd:Int}
end
end Go.Proofs.YtfkkpkhfjpaafaaGreatDoor
namespace Go.Proofs.YtfkkpkhfjpaafaaGreatDoor
open Go PI
set_option linter.unusedVariables false
set_option linter.unusedSimpArgs false
set_option maxRecDepth 20000
section
variable {vb db kd:Int}
end
end Go.Proofs.YtfkkpkhfjpaafaaGreatDoor
namespace Go.Proofs.YtfkkpkhfjpaafaaGreatDoor
open Go PI
set_option linter.unusedVariables false
set_option linter.unusedSimpArgs false
set_option maxRecDepth 20000
variable {S:Type} {k:Nat}
end Go.Proofs.YtfkkpkhfjpaafaaGreatDoor
namespace Go.Proofs.YtfkkpkhfjpaafaaGreatDoor
open Go PI
set_option linter.unusedVariables false
set_option linter.unusedSimpArgs false
set_option maxRecDepth 20000
end Go.Proofs.YtfkkpkhfjpaafaaGreatDoor
namespace Go.Proofs.YtfkkpkhfjpaafaaGreatDoor
open Go PI
set_option linter.unusedVariables false
set_option linter.unusedSimpArgs false
set_option maxRecDepth 20000
variable {S:Type} {k:Nat}
theorem BI {l:List Tm} {x:Except Int Tm} {t:Tm} (h:soE l x= .ok t):alE l=0∧bw t=0∧x= .ok t:=by
 unfold soE at h
 split at h
 case isFalse=>cases h
 rename_i h1
 unfold al_ at h
 obtain ⟨t',h3,h⟩:=sm h
 split at h
 case isFalse=>cases h
 rename_i h4
 injection h with h;subst h
 exact ⟨h1,h4,h3⟩
theorem R3 {l:List Tm} {x:Except Int Tm} {e:Int} (hx: ∀e,x= .error e→e≠0) (h:soE l x= .error e):e≠0:=by
 unfold soE at h
 split at h
 ·unfold al_ at h
  rcases be h with h|⟨t,_,h⟩
  ·exact hx e h
  ·split at h
   ·cases h
   ·rename_i hne;injection h with h;exact h▸hne
 ·rename_i hne;injection h with h;exact h▸hne
end Go.Proofs.YtfkkpkhfjpaafaaGreatDoor
namespace Go.Proofs.YtfkkpkhfjpaafaaGreatDoor
open Go PI
set_option linter.unusedVariables false
set_option linter.unusedSimpArgs false
set_option maxRecDepth 20000
variable {S:Type} {k:Nat}
def ut {α:Type} (x:Except Int α):Int:=match x with
 | .ok _=>0
 | .error e=>e
theorem NG {t:Tm} {n:Int} (hn:n=(t.kids.length:Int)-1):List.drop (Int.toNat 1) (List.take (Int.toNat n) t.kids)=ac3 t:=by
 have:Int.toNat n=t.kids.length-1:=by omega
 rw [this];rfl
theorem NF (t:Tm):(ac3 t).length≤t.kids.length:=by unfold ac3;rw [List.length_drop,List.length_take];omega
theorem rd {t x:Tm} (h:x∈ac3 t):x∈t.kids:=List.mem_of_mem_take (List.mem_of_mem_drop h)
theorem By (hk:F3 k) {t p a:Tm} {c n:Int} (hn:n=(t.kids.length:Int)-1) (h1:2≤t.kids.length) (hl:t.kids.length<1073741000) (ret:Int×Int×ByteArray×List Tm×Int→Option S):
  nc k p 0 a t n c ret=ret (t.kind,0,ByteArray.empty,p::ac3 t++[a],c):=by
 have hfu:4294968296≤k:=hk
 have hml:=NF t
 have:=aeM ret hk (c0:=t) (a:=a) (e:=c) (NG hn) (by omega) (ac3 t) [] [p] k rfl (by omega) (by simp;omega)
 simp only [nc,BP,ar]
 rw [fN _ (by omega)]
 exact this
theorem Rm (hk:F3 k) {t p a:Tm} {c n:Int} (ft:Fm t) (hn:n=(t.kids.length:Int)-1) (h1:2≤t.kids.length) (ret:Int×Int×ByteArray×List Tm×Int→Option S):
  ∃l,nc k p 1 a t n c ret=ret (t.kind,0,ByteArray.empty,p::l++[a],ut (stE c (alM (ac3 t))))∧ ∀l',stE c (alM (ac3 t))= .ok l'→l=l':=by
 have hfu:4294968296≤k:=hk
 have hml:=NF t
 have hkl:=ft.ok.no.2.2.2.2.2.1
 have hz:t.kids.length≤20000:=by
  have h:=ft.siz
  have hz:=rM t
  have: ∀l:List Tm,l.length≤ay l:=by
   intro l
   induction l with
   |nil=>simp
   |cons x l ih=>rw [ay,List.length_cons];have:=mB x;omega
  have:=this t.kids
  omega
 obtain ⟨l,h2,h3⟩:=aeN ret hk (c0:=t) (a:=a) (NG hn) (by omega) (fun y hy=>ft.kid (rd hy)) (ac3 t) [] [p] k c rfl (by omega) (by simp;omega)
 refine ⟨l, ?_,h3⟩
 simp only [nc,BP,ar]
 rw [fN _ (by omega)]
 refine h2.trans ?_
 unfold ut
 cases stE c (alM (ac3 t))<;>rfl
theorem LB (hk:F3 k) (ret:Tm×Bool×Int→Option S) {r9 r10:Tm×Int} {r13:Int×Int×ByteArray×List Tm×Int} {t x:Tm} (ft:Fm t) (h1:2≤t.kids.length) (hx: ∀b∈x.sys,b.kids=[wl b]) (hxl:x.sys.length≤20000) {c:Int} (hc:c≠0):
  ∀ (r p acc:List (Br Tm)) (m:Nat),x.sys=p++r→r.length<m→acc.length+r.length≤20000→fX k ret t r9 r10 r13 t x m c acc (p.length:Int)=ret (ao,false,c):=by
 have hfu:4294968296≤k:=hk
 have hw:IntKind.wrap .i64 ((t.kids.length:Int)-1)=(t.kids.length:Int)-1:=aaf (by omega) (by have:=ft.ok.no.2.2.2.2.2.1;omega)
 intro r
 induction r with
 |nil=>
  intro p acc m h hm ha
  obtain ⟨m,rfl,hm'⟩:=km hm
  simp only [fX,oR,akb h,ad,ag hk.fu,ar]
  rw [Rx hk (fun h=>absurd h hc) (fun e h=>R3 (fun e h=>by have:=o_ h;omega) h),n9 hc,Ry hk (gQ hk)]
  exact JF hc ret
 |cons b r ih=>
  intro p acc m h hm ha
  obtain ⟨m,rfl,hm'⟩:=km hm
  obtain ⟨e1,e2,e3,e4⟩:=ln h (by omega)
  have hg:af b.kids 0=some (wl b):=ED (n:=0) rfl (by rw [hx b (by rw [h];simp)];rfl)
  rw [List.length_cons] at ha
  simp only [fX,oR,e1,ae,e2,Option.bind_some,hg,ag hk.fu,ar,hw,e3]
  obtain ⟨l,h2,_⟩:=Rm (p:=r9.1) (a:=wl b) (c:=c) hk ft rfl h1 fun r16=>nf k b.face [(Tm.mk r16.1 r16.2.1 r16.2.2.1 [] r16.2.2.2.1 [])] fun r17=>Option.bind (aw 1099511627776 acc.length [r17].length) fun x18=>fX k ret t r9 r10 r13 t x m r16.2.2.2.2 (acc++[r17]) (((p++[b]).length:Nat):Int)
  refine h2.trans ?_
  rw [lb hc]
  simp only [nf,H0,ut]
  rw [sf (by simp;omega)]
  exact ih (p++[b]) _ m e4 hm' (by rw [List.length_append,List.length_singleton];omega)
end Go.Proofs.YtfkkpkhfjpaafaaGreatDoor
namespace Go.Proofs.YtfkkpkhfjpaafaaGreatDoor
open Go PI
set_option linter.unusedVariables false
set_option linter.unusedSimpArgs false
set_option maxRecDepth 20000
variable {S:Type} {k:Nat}
theorem I_: ∀ {l l':List Tm},(∀y∈l,Fm y)→alM l= .ok l'→(∀y∈l',Fm y)∧l'.length=l.length:=by
 intro l
 induction l with
 |nil=>intro l' _ h;rw [alM] at h;injection h with h;subst h;exact ⟨fun y hy=>(by cases hy),rfl⟩
 |cons x l ih=>
  intro l' hf h
  rw [alM] at h
  obtain ⟨y,h1,h⟩:=sm h
  obtain ⟨m,h2,h⟩:=sm h
  injection h with h;subst h
  obtain ⟨i1,i2⟩:=ih (fun y hy=>hf y (by simp [hy])) h2
  have fy:=mD (by omega) (hf x (by simp)) h1
  refine ⟨fun z hz=> ?_,by simp [i2]⟩
  rcases List.mem_cons.1 hz with rfl|hz
  ·exact fy
  ·exact i1 z hz
theorem aka {n:Nat}: ∀ {l:List Tm},(∀x∈l,au x≤n)→ay l≤l.length*n:=by
 intro l
 induction l with
 |nil=>intro _;rw [ay];simp
 |cons x l ih=>
  intro h
  rw [ay,List.length_cons,Nat.succ_mul]
  have:=ih fun y hy=>h y (by simp [hy])
  have:=h x (by simp)
  omega
theorem aag {n:Nat}: ∀ {l:List Tm},(∀x∈l,am x≤n)→aH l≤n:=by
 intro l
 induction l with
 |nil=>intro _;rw [aH];omega
 |cons x l ih=>intro h;rw [aH];have:=ih fun y hy=>h y (by simp [hy]);have:=h x (by simp);omega
theorem pO {kd:Int} (hkd:kd=22∨kd=27) {p a:Tm} {l:List Tm} (fp:Fm p) (fa:Fm a) (fl: ∀y∈l,Fm y) (hl:l.length≤3):Sm 100001 (ig kd p l a)∧am (ig kd p l a)≤201:=by
 have hall: ∀x∈p::l++[a],Fm x:=fun x hx=>by
  rcases List.mem_append.1 hx with hx|hx
  ·rcases List.mem_cons.1 hx with rfl|hx
   ·exact fp
   ·exact fl x hx
  ·rw [List.mem_singleton] at hx;subst hx;exact fa
 have hlen:(p::l++[a]).length≤5:=by simp;omega
 have hz:ay (p::l++[a])≤100000:=Nat.le_trans (aka fun x hx=>(hall x hx).siz) (Nat.le_trans (Nat.mul_le_mul_right _ hlen) (by omega))
 have hd:aH (p::l++[a])≤200:=aag fun x hx=>(hall x hx).dep
 refine ⟨(Hn (kd:=kd) (by omega) (r:=[]) ⟨(fun c hc=>by cases hc),by simp⟩ (ks:=p::l++[a]) (sys:=[]) (n:=100000) (m:=0) (fun x hx=>⟨(hall x hx).ok,by have:=(hall x hx).dep;omega⟩) (by omega) hz (by rw [ba];trivial) (by simp) (by rw [aO];omega) (by rw [aI];omega)).mono (by omega), ?_⟩
 rw [am,aO];omega
theorem Jb (hk:F3 k) {n:Nat} (hn:n≤50000000) {l:List (Br Tm)} (h:Bs' n l) (hl:l.length≤20000) (hd:aO l≤299):In k (sx l):=by
 have hz:aI l≤1000000000000:=Nat.le_trans h.siz (Nat.le_trans (Nat.mul_le_mul hl hn) (by omega))
 have hs:au ao≤1:=by unfold ao;rw [au,ay,aI];omega
 have hdn:am ao≤1:=by unfold ao;rw [am,aH,aO];omega
 refine (show Sm (10+1000000000000+1) (sx l) from ?_).isIn hk (by omega)
 unfold sx
 exact Hn (kd:=15) (by omega) (r:=[]) ⟨(fun c hc=>by cases hc),by simp⟩ (fun x hx=>by
  simp at hx
  subst hx
  refine ⟨?_, ?_⟩
  ·rw [OkT,aZ,ba];exact ⟨⟨by unfold aG;omega,by unfold aG;omega,by decide,(fun c hc=>by cases hc),by simp,by simp,by simp⟩,trivial,trivial⟩
  ·rw [am,aH,aO];omega) (by simp) (by rw [ay,ay,ay,au,ay,aI];simp) h.ok (by omega) hd hz
end Go.Proofs.YtfkkpkhfjpaafaaGreatDoor
namespace Go.Proofs.YtfkkpkhfjpaafaaGreatDoor
open Go PI
set_option linter.unusedVariables false
set_option linter.unusedSimpArgs false
set_option maxRecDepth 20000
variable {S:Type} {k:Nat}
theorem Jc (hk:F3 k) {x:Tm} (fx:Fm x):In k (sx x.sys):=by
 obtain ⟨o1,o2,o3,o4,o5,o6,o7⟩:=fx.ok.no
 have hs:ba x.sys:=by have:=fx.ok;cases x;rw [OkT] at this;exact this.2.2
 have hd:aO x.sys≤299:=by have:=fx.dep;cases x;rw [am] at this;show aO _≤299;simp only [Tm.sys];omega
 have hz:aI x.sys≤20000:=by have:=fx.siz;cases x;rw [au] at this;show aI _≤20000;simp only [Tm.sys];omega
 unfold sx
 exact (Hn (kd:=15) (by omega) (r:=[]) ⟨(fun c hc=>by cases hc),by simp⟩ (n:=10) (fun y hy=>by
  simp at hy
  subst hy
  refine ⟨?_, ?_⟩
  ·rw [OkT,aZ,ba];exact ⟨⟨by unfold aG;omega,by unfold aG;omega,by decide,(fun c hc=>by cases hc),by simp,by simp,by simp⟩,trivial,trivial⟩
  ·rw [am,aH,aO];omega) (by simp) (by rw [ay,ay,ay,au,ay,aI];simp) hs (by omega) hd hz).isIn hk (by omega)
theorem BJ {l:List Tm} {x:Except Int Tm} {e:Int} (hx: ∀e,x= .error e→0<e∧e≤1000) (h:soE l x= .error e):e≠0:=R3 (fun e h=>by have:=hx e h;omega) h
theorem wg {a b c:Tm} (ha:OkT a) (hb:OkT b) (hc:OkT c) (h:alE [a,b,c]=0):Fm a∧Fm b∧Fm c:=by
 have:=wh (l:=[a,b,c]) (fun x hx=>by
  simp at hx
  rcases hx with rfl|rfl|rfl
  ·exact ha
  ·exact hb
  ·exact hc) h
 exact ⟨this a (by simp),this b (by simp),this c (by simp)⟩
theorem aeY (hk:F3 k) (ret:Tm×Bool×Int→Option S) {r9 r10:Tm×Int} {r13:Int×Int×ByteArray×List Tm×Int} {t x:Tm} (ft:Fm t) (hkd:t.kind=22∨t.kind=27) (h1:2≤t.kids.length∧t.kids.length≤5) (fb:Fm r9.1) (hx: ∀b∈x.sys,b.kids=[wl b]∧Fm (wl b)∧RX true b.face) (hxl:x.sys.length≤20000)
  (hl:In k r10.1) (ha:In k (.mk r13.1 r13.2.1 r13.2.2.1 [] r13.2.2.2.1 [])):
  ∀ (r p acc:List (Br Tm)) (m:Nat),x.sys=p++r→r.length<m→Bs' 110000 acc→aO acc≤299→acc.length+r.length≤20000→
   fX k ret t r9 r10 r13 t x m 0 acc (p.length:Int)=ret (iP (bE (ama t.kind r9.1 (ac3 t) r) fun l=>soE [r10.1,.mk r13.1 r13.2.1 r13.2.2.1 [] r13.2.2.2.1 [],sx (acc++l)] (dF r10.1 (.mk r13.1 r13.2.1 r13.2.2.1 [] r13.2.2.2.1 []) (acc++l)))):=by
 have hfu:4294968296≤k:=hk
 have hw:IntKind.wrap .i64 ((t.kids.length:Int)-1)=(t.kids.length:Int)-1:=aaf (by omega) (by omega)
 intro r
 induction r with
 |nil=>
  intro p acc m h hm hb hd hacc
  obtain ⟨m,rfl,hm'⟩:=km hm
  have hsys:=Jb hk (by omega) hb (by simpa using hacc) hd
  simp only [fX,oR,akb h,ad,ag hk.fu,ar]
  rw [Rx hk (fun _=>⟨hl,ha,hsys⟩) (fun e h=>BJ (fun e h=>o_ h) h),kR,ama,aD,List.append_nil]
  have hin:=akc hk (l:=[r10.1,.mk r13.1 r13.2.1 r13.2.2.1 [] r13.2.2.2.1 [],sx acc]) (x:=dF r10.1 (.mk r13.1 r13.2.1 r13.2.2.1 [] r13.2.2.2.1 []) acc) fun hso y hy=>by
   obtain ⟨f1,f2,f3⟩:=wg hl.1 ha.1 hsys.1 hso
   exact (yu hk f1 f2 (iQ f3) hy).1
  rw [Ry hk hin]
  cases hh:soE [r10.1,.mk r13.1 r13.2.1 r13.2.2.1 [] r13.2.2.2.1 [],sx acc] (dF r10.1 (.mk r13.1 r13.2.1 r13.2.2.1 [] r13.2.2.2.1 []) acc) with
  |error e=>exact JF (BJ (fun e h=>o_ h) hh) ret
  |ok y=>exact aae ret
 |cons b r ih=>
  intro p acc m h hm hb hd hacc
  obtain ⟨m,rfl,hm'⟩:=km hm
  obtain ⟨e1,e2,e3,e4⟩:=ln h (by omega)
  obtain ⟨hbk,hbf,hbx⟩:=hx b (by rw [h];simp)
  have hg:af b.kids 0=some (wl b):=ED (n:=0) rfl (by rw [hbk];rfl)
  rw [List.length_cons] at hacc
  simp only [fX,oR,e1,ae,e2,Option.bind_some,hg,ag hk.fu,ar,hw,e3]
  obtain ⟨l,h2,h3⟩:=Rm (p:=r9.1) (a:=wl b) (c:=0) hk ft rfl h1.1 fun r16=>nf k b.face [(Tm.mk r16.1 r16.2.1 r16.2.2.1 [] r16.2.2.2.1 [])] fun r17=>Option.bind (aw 1099511627776 acc.length [r17].length) fun x18=>fX k ret t r9 r10 r13 t x m r16.2.2.2.2 (acc++[r17]) (((p++[b]).length:Nat):Int)
  refine h2.trans ?_
  rw [oH] at h3 ⊢
  simp only [nf,H0]
  rw [sf (by simp;omega),ama]
  cases hh:alM (ac3 t) with
  |error e=>
   have he:=Ue hh
   rw [lk,lk,show ut (.error e:Except Int (List Tm))=e from rfl]
   exact LB hk ret ft h1.1 (fun b hb=>(hx b hb).1) hxl (by omega) r (p++[b]) _ m e4 hm' (by rw [List.length_append,List.length_singleton];omega)
  |ok ms=>
   have hle:=h3 ms hh
   subst hle
   obtain ⟨fm,fml⟩:=I_ (fun y hy=>ft.kid (rd hy)) hh
   have hml:(ac3 t).length≤3:=by unfold ac3;rw [List.length_drop,List.length_take];omega
   obtain ⟨q1,q2⟩:=pO hkd fb hbf fm (by omega)
   rw [aD,show ut (.ok l:Except Int (List Tm))=0 from rfl]
   refine (ih (p++[b]) (acc++[⟨b.face,[ig t.kind r9.1 l (wl b)]⟩]) m e4 hm' (Ju hb (G9 hbx) (q1.mono (by omega))) (by rw [zF,aO,eB,aH,aH,aO];omega) (by rw [List.length_append,List.length_singleton];omega)).trans ?_
   congr 2
   cases ama t.kind r9.1 (ac3 t) r with
   |error e=>rfl
   |ok l'=>rw [aD,aD,aD,List.append_assoc];rfl
end Go.Proofs.YtfkkpkhfjpaafaaGreatDoor
namespace Go.Proofs.YtfkkpkhfjpaafaaGreatDoor
open Go PI
set_option linter.unusedVariables false
set_option linter.unusedSimpArgs false
set_option maxRecDepth 20000
variable {S:Type} {k:Nat}
theorem KP {l:List Tm} (h:1≤l.length):af l 0=some (l.getD 0 ao):=by
 cases l with
 |nil=>simp at h
 |cons a l=>rfl
theorem nw {t:Tm} (h:2≤t.kids.length):af t.kids ((t.kids.length:Int)-1)=some (adR t)∧adR t∈t.kids:=by
 have e:((t.kids.length:Int)-1)=((t.kids.length-1:Nat):Int):=by omega
 have hl:t.kids.length-1<t.kids.length:=by omega
 have h2:t.kids[t.kids.length-1]? =some (t.kids[t.kids.length-1]):=List.getElem?_eq_getElem hl
 have h3:adR t=t.kids[t.kids.length-1]:=by unfold adR;rw [List.getD_eq_getElem?_getD,h2];rfl
 rw [e,pU,h3]
 exact ⟨h2,List.getElem_mem hl⟩
theorem aeX (hk4:F4 k) {t:Tm} (ft:Fm t) (hkd:t.kind=22∨t.kind=27) (h15:(adR t).kind=15) (ret:Tm×Bool×Int→Option S):l6 k ret t k=ret (iP (amf t.kind (t.kids.getD 0 ao) (ac3 t) (adR t))):=by
 have hk:=hk4.f3
 have hfu:4294968296≤k:=hk
 have hlen:2≤t.kids.length∧t.kids.length≤5:=by
  have:=ft.nk
  rcases hkd with h|h<;>rw [h] at this
  ·have e:ct 22=4:=rfl
   omega
  ·have e:ct 27=5:=rfl
   omega
 obtain ⟨gl,ml⟩:=nw hlen.1
 have fx:=ft.kid ml
 obtain ⟨u,a,hxk⟩:=I8 (E5 fx h15 (n:=2) rfl)
 obtain ⟨gx0,gx1⟩:=KQ hxk
 obtain ⟨dx0,dx1⟩:=EC hxk
 have fu:Fm u:=fx.kid (by rw [hxk];simp)
 have fa:Fm a:=fx.kid (by rw [hxk];simp)
 obtain ⟨sy,syl⟩:=fx.sy h15
 have g0:=KP (show 1≤t.kids.length by omega)
 have fp:Fm (t.kids.getD 0 ao):=ft.kid (by
  match h:t.kids,hlen.1 with
  |a::l,_=>simp)
 have hw:IntKind.wrap .i64 ((t.kids.length:Int)-1)=(t.kids.length:Int)-1:=aaf (by omega) (by omega)
 have hwx:=Jc hk fx
 have hC: ∀ {c:Int} (hc:c≠0) (r9 r10:Tm×Int) (r13:Int×Int×ByteArray×List Tm×Int),fX k ret t r9 r10 r13 t (adR t) k c [] 0=ret (ao,false,c):=fun hc r9 r10 r13=>LB hk ret ft hlen.1 (fun b hb=>(sy b hb).1) syl hc (adR t).sys [] [] k rfl (by omega) (by simpa using syl)
 obtain ⟨q,hq⟩: ∃q,k=q+1:=⟨k-1,by omega⟩
 have main: ∀j,j=q+1→l6 k ret t j=ret (iP (amf t.kind (t.kids.getD 0 ao) (ac3 t) (adR t))):=by
  rintro j rfl
  simp only [l6,w_,ag hk.fu,ar,hw]
  rw [vU t ft.1 _ (ft.isIn hk).2.1]
  simp only [gl,Option.bind_some,gx0,gx1,g0]
  rw [ajm hk (fun _=>⟨fu.isIn hk,fa.isIn hk,hwx⟩) (fun e h=>BJ (fun e h=>uw h) h),kR]
  unfold amf
  rw [dx0,dx1]
  cases hf:soE [u,a,sx (adR t).sys] (amg u a (adR t).sys) with
  |error e=>
   have he:=BJ (fun e h=>uw h) hf
   rw [show (tE (.error e)).2=e from rfl,Rv hk (fun h=>absurd h he),n9 he]
   rw [Hf hk4 (fun h=>absurd h he),n9 he,By hk rfl hlen.1 (by omega)]
   exact hC he _ _ _
  |ok f=>
   obtain ⟨so,ff,hfe⟩:=BI hf
   have hF:Fm f:=⟨(ux hk fu fa (iQ (wg fu.ok fa.ok hwx.1 so).2.2) hfe).1.1,ff⟩
   rw [show (tE (.ok f)).2=0 from rfl,show (tE (.ok f)).1=f from rfl,Rv hk (fun _=>fp),kR,aD]
   cases hb:su 0 1 (t.kids.getD 0 ao) with
   |error e=>
    have he:e≠0:=by have:=al3 hb;omega
    rw [show (tE (.error e)).2=e from rfl,Hf hk4 (fun h=>absurd h he),n9 he,By hk rfl hlen.1 (by omega)]
    exact hC he _ _ _
   |ok b=>
    have fb:=mD (by omega) fp hb
    have hpp:ri 0 b f=ams 0 b f:=by unfold ri fmE;rw [if_pos fb.2,if_pos hF.2]
    rw [show (tE (.ok b)).2=0 from rfl,show (tE (.ok b)).1=b from rfl,Hf hk4 (fun _=>⟨fb.isIn hk,hF.isIn hk⟩),kR,aD,hpp]
    cases hp:ams 0 b f with
    |error e=>
     have he:e≠0:=by have:=AL hp;omega
     rw [show (tE (.error e)).2=e from rfl,By hk rfl hlen.1 (by omega)]
     exact hC he _ _ _
    |ok line=>
     have fl:=F5 (by omega) fb hF hp
     rw [show (tE (.ok line)).2=0 from rfl,By hk rfl hlen.1 (by omega),aD]
     have fm: ∀y∈ac3 t,Fm y:=fun y hy=>ft.kid (rd hy)
     have hml:(ac3 t).length≤3:=by unfold ac3;rw [List.length_drop,List.length_take];omega
     obtain ⟨q1,q2⟩:=pO hkd fp fa fm hml
     exact aeY hk ret (r9:=(b,0)) (r10:=(line,0)) (r13:=(t.kind,0,ByteArray.empty,t.kids.getD 0 ao::ac3 t++[a],0)) ft hkd hlen fb sy syl (fl.isIn hk) (q1.isIn hk (by omega)) (adR t).sys [] [] k rfl (by omega) (Dp _) (by rw [aO];omega) (by simpa using syl)
 exact main k hq
theorem ajh (hk4:F4 k) {t:Tm} (ht:In k t) (ret:Tm×Bool×Int→Option S):tL k t ret=ret (pP t):=by
 have hk:=hk4.f3
 simp only [tL,HU,ag hk.fu,ar,amv ht.1 ht.2.1 ht.dep]
 unfold pP
 by_cases h0:bw t=0
 case neg=>rw [dj h0,Bool.not_false,ae,if_pos h0];rfl
 rw [h0,show (!((0:Int)==0))=false from rfl,ad,if_neg (by simp)]
 have ft:Fm t:=⟨ht.1,h0⟩
 have hlen:(t.kind=22∨t.kind=27)→2≤t.kids.length:=fun h=>by
  have:=ft.nk
  rcases h with h|h<;>rw [h] at this
  ·have e:ct 22=4:=rfl
   omega
  ·have e:ct 27=5:=rfl
   omega
 have hw:IntKind.wrap .i64 ((t.kids.length:Int)-1)=(t.kids.length:Int)-1:=aaf (by omega) (by have:=ft.ok.no.2.2.2.2.2.1;omega)
 have main:(t.kind=22∨t.kind=27)→ ∀g:Tm→Option S,g (adR t)=ab (!((adR t).kind==15)) (ret (ao,false,0)) (l6 k ret t k)→g (adR t)=ret (if (t.kind=22∨t.kind=27)∧(adR t).kind=15 then iP (amf t.kind (t.kids.getD 0 ao) (ac3 t) (adR t)) else (ao,false,0)):=fun h g hg=>by
  rw [hg]
  by_cases h15:(adR t).kind=15
  case neg=>rw [beq_false_of_ne h15,Bool.not_false,ae,if_neg (fun h=>h15 h.2)]
  rw [if_pos ⟨h,h15⟩,h15,show (!((15:Int)==15))=false from rfl,ad]
  exact aeX hk4 ft h h15 ret
 by_cases h22:t.kind=22
 ·rw [show (!(t.kind==22))=false from by simpa using h22,ad,hw,(nw (hlen (.inl h22))).1,Option.bind_some]
  exact main (.inl h22) (fun x=>ab (!(x.kind==15)) (ret (ao,false,0)) (l6 k ret t k)) rfl
 rw [show (!(t.kind==22))=true from by simpa using h22,ae]
 by_cases h27:t.kind=27
 case neg=>rw [show (!(t.kind==27))=true from by simpa using h27,ae,if_neg (fun h=>by omega)];rfl
 rw [show (!(t.kind==27))=false from by simpa using h27,ad,hw,(nw (hlen (.inr h27))).1,Option.bind_some]
 exact main (.inr h27) (fun x=>ab (!(x.kind==15)) (ret (ao,false,0)) (l6 k ret t k)) rfl
end Go.Proofs.YtfkkpkhfjpaafaaGreatDoor
namespace Go.Proofs.YtfkkpkhfjpaafaaGreatDoor
open Go PI
set_option linter.unusedVariables false
set_option linter.unusedSimpArgs false
set_option maxRecDepth 20000
variable {S:Type} {k:Nat}
theorem BH {l:List Tm} {x:Except Int Tm} {e:Int} (hx: ∀e,x= .error e→0<e∧e≤1000) (h:soE l x= .error e):0<e∧e≤1000:=by
 unfold soE at h
 have hs:=aki l
 split at h
 ·unfold al_ at h
  rcases be h with h|⟨t,_,h⟩
  ·exact hx e h
  ·have:=Et t
   split at h
   ·cases h
   ·rename_i hne;injection h with h;subst h;omega
 ·rename_i hne;injection h with h;subst h;omega
abbrev al4 (x:Tm):Bool:=decide (x.kind<0)
def amm (l:List Tm):List Tm:=l.map fun y=>rE (su 0 1 y)
theorem ald: ∀ {l l':List Tm},(∀y∈l,Fm y)→alM l= .ok l'→amm l=l'∧(amm l).find? al4=none:=by
 intro l
 induction l with
 |nil=>intro l' _ h;rw [alM] at h;injection h with h;subst h;exact ⟨rfl,rfl⟩
 |cons y l ih=>
  intro l' hf h
  rw [alM] at h
  obtain ⟨y',h1,h⟩:=sm h
  obtain ⟨m,h2,h⟩:=sm h
  injection h with h;subst h
  obtain ⟨i1,i2⟩:=ih (fun y hy=>hf y (by simp [hy])) h2
  have hk:al4 y'=false:=decide_eq_false (by rw [B1 h1];have:=(hf y (by simp)).kd0;omega)
  refine ⟨?_, ?_⟩
  ·show rE (su 0 1 y)::amm l=_
   rw [h1,i1];rfl
  ·show (rE (su 0 1 y)::amm l).find? al4=none
   rw [h1,List.find?_cons,show al4 (rE (.ok y'))=false from hk];exact i2
theorem alc: ∀ {l:List Tm} {e:Int},(∀y∈l,Fm y)→alM l= .error e→(amm l).find? al4=some (bh e):=by
 intro l
 induction l with
 |nil=>intro e _ h;rw [alM] at h;cases h
 |cons y l ih=>
  intro e hf h
  rw [alM] at h
  show (rE (su 0 1 y)::amm l).find? al4=_
  rcases be h with h|⟨y',h1,h⟩
  ·rw [h,List.find?_cons,show al4 (rE (.error e))=true from amC (al3 h).1];rfl
  ·rcases be h with h|⟨_,_,h⟩
   ·have hk:al4 y'=false:=decide_eq_false (by rw [B1 h1];have:=(hf y (by simp)).kd0;omega)
    rw [h1,List.find?_cons,show al4 (rE (.ok y'))=false from hk]
    exact ih (fun y hy=>hf y (by simp [hy])) h
   ·cases h
theorem afG (hk:F3 k) (ret:Tm→Option S) (rec1:List (Br Tm)→Int→Option S) {t x r8 r9 x12 z:Tm} {sys10:List (Br Tm)} {i11:Int} {b:Br Tm} (ht0:0≤t.kind) (hl:t.kids.length<1000) (hb:af x.sys i11=some b) (hbk:b.kids=[wl b]) (hkd:0≤(wl b).kind) (hs:sys10.length<1000000):
  ∀ (r p acc:List Tm) (m:Nat),t.kids=p++(r++[z])→(∀y∈r,Fm y)→r.length<m→acc.length+r.length<900→
   nX k ret rec1 t x r8 r9 x12 sys10 i11 m acc (p.length:Int)=match (acc++amm r).find? al4 with
    |some w=>ret w
    |none=>rec1 (sys10++[.mk b.face [.mk t.kind 0 ByteArray.empty [] (acc++amm r++[wl b]) []]]) (IntKind.wrap .i64 (i11+1)):=by
 have hfu:4294968296≤k:=hk
 have hlen: ∀ {r p:List Tm},t.kids=p++(r++[z])→t.kids.length=p.length+r.length+1:=fun h=>by rw [h];simp;omega
 intro r
 induction r with
 |nil=>
  intro p acc m h hf hm ha
  obtain ⟨m,rfl,hm'⟩:=km hm
  have hl1:=hlen h
  rw [List.length_nil] at hl1 ha
  have hw:IntKind.wrap .i64 ((t.kids.length:Int)-1)=(t.kids.length:Int)-1:=aaf (by omega) (by omega)
  have hg:af b.kids 0=some (wl b):=ED (n:=0) rfl (by rw [hbk];rfl)
  simp only [nX,ya,hw,ag hk.fu,ar,ue,BX]
  rw [decide_eq_false (by omega),ad,hb,Option.bind_some,hg,Option.bind_some,sf (by simp;omega)]
  have hmk:=LA hk.fu (fun r20=>ab (decide (r20.kind<0)) (ret r20) (Option.bind (some b) fun x21=>Option.bind (aw 1099511627776 sys10.length [Br.mk x21.face [r20]].length) fun x22=>rec1 (sys10++[Br.mk x21.face [r20]]) (IntKind.wrap .i64 (i11+1)))) (kd:=t.kind) (l:=acc++[wl b]) (by simp;omega) (acc++[wl b]) [] k rfl (by simp;omega)
  refine Eq.trans hmk ?_
  rw [show amm []=[] from rfl,List.append_nil,List.find?_append]
  rw [show List.find? (fun x=>decide (x.kind<0)) [wl b]=none from by rw [List.find?_cons,decide_eq_false (by omega)];rfl]
  rw [show (List.find? (fun x:Tm=>decide (x.kind<0)) acc)=acc.find? al4 from rfl]
  cases hw:acc.find? al4 with
  |some w=>
   have:al4 w=true:=List.find?_some hw
   show ab (decide (w.kind<0)) _ _=_
   rw [show decide (w.kind<0)=true from this,ae]
   rfl
  |none=>
   show ab (decide (t.kind<0)) _ _=_
   by_cases htk:t.kind<0
   ·exfalso
    omega
   ·rw [decide_eq_false htk,ad,Option.bind_some,sf (by simp;omega)]
    rfl
 |cons y r ih=>
  intro p acc m h hf hm ha
  obtain ⟨m,rfl,hm'⟩:=km hm
  have hl1:=hlen h
  rw [List.length_cons] at hl1 ha
  have hw:IntKind.wrap .i64 ((t.kids.length:Int)-1)=(t.kids.length:Int)-1:=aaf (by omega) (by omega)
  obtain ⟨e1,e2,e3,e4⟩:=ln (show t.kids=p++y::(r++[z]) from h) (by omega)
  simp only [nX,ya,hw,ag hk.fu,ar]
  rw [decide_eq_true (by omega),ae,e2,Option.bind_some,anE hk (hf y (by simp)) (by omega) (by omega),sf (by simp;omega),e3]
  refine (ih (p++[y]) (acc++[rE (su 0 1 y)]) m e4 (fun y hy=>hf y (by simp [hy])) hm' (by simp;omega)).trans ?_
  rw [List.append_assoc,show [rE (su 0 1 y)]++amm r=amm (y::r) from rfl]
end Go.Proofs.YtfkkpkhfjpaafaaGreatDoor
namespace Go.Proofs.YtfkkpkhfjpaafaaGreatDoor
open Go PI
set_option linter.unusedVariables false
set_option linter.unusedSimpArgs false
set_option maxRecDepth 20000
variable {S:Type} {k:Nat}
theorem Lx {t:Tm} (h:2≤t.kids.length):t.kids=[t.kids.getD 0 ao]++(ac3 t++[adR t])∧t.kids.take (t.kids.length-1)=t.kids.getD 0 ao::ac3 t:=by
 unfold ac3 adR
 match t.kids,h with
 |a::b::l,_=>
  have hi:(a::b::l).length-1=(b::l).length:=by simp
  have hj:(b::l).length=((b::l).length-1)+1:=by simp
  have e1:(a::b::l).take ((b::l).length)=a::(b::l).take ((b::l).length-1):=by rw [hj,List.take_succ_cons];rfl
  have e2:(a::b::l).getD ((b::l).length) ao=(b::l).getD ((b::l).length-1) ao:=by rw [hj];rfl
  rw [hi,e1,e2]
  refine ⟨?_,rfl⟩
  have e3:(b::l).drop ((b::l).length-1)=[(b::l).getD ((b::l).length-1) ao]:=by
   have hlt:(b::l).length-1<(b::l).length:=by simp
   rw [List.drop_eq_getElem_cons hlt,List.getD_eq_getElem?_getD,List.getElem?_eq_getElem hlt,show (b::l).length-1+1=(b::l).length by simp,List.drop_length];rfl
  show a::(b::l)=a::((b::l).take ((b::l).length-1)++[(b::l).getD ((b::l).length-1) ao])
  rw [←e3,List.take_append_drop]
theorem afF (hk:F3 k) (ret:Tm→Option S) {t x r8 r9 x12 A:Tm} (hA:Tm.mk t.kind 0 ByteArray.empty [] (([]:List Tm)++List.take (Int.toNat ((t.kids.length:Int)-1)) t.kids++[x12]) []=A) (ft:Fm t) (hkd:t.kind=22∨t.kind=27) (h1:2≤t.kids.length∧t.kids.length≤5) (fb:Fm r8) (hx: ∀b∈x.sys,b.kids=[wl b]∧Fm (wl b)∧RX true b.face) (hxl:x.sys.length≤20000)
  (hl:In k r9) (ha:In k A):
  ∀ (r p acc:List (Br Tm)) (m:Nat),x.sys=p++r→r.length<m→Bs' 110000 acc→aO acc≤299→acc.length+r.length≤20000→
   amU k ret t x r8 r9 x12 m acc (p.length:Int)=ret (rE (bE (ama t.kind r8 (ac3 t) r) fun l=>soE [r9,A,sx (acc++l)] (dF r9 A (acc++l)))):=by
 have hfu:4294968296≤k:=hk
 have hw:IntKind.wrap .i64 ((t.kids.length:Int)-1)=(t.kids.length:Int)-1:=aaf (by omega) (by omega)
 intro r
 induction r with
 |nil=>
  intro p acc m h hm hb hd hacc
  obtain ⟨m,rfl,hm'⟩:=km hm
  have hsys:=Jb hk (by omega) hb (by simpa using hacc) hd
  simp only [amU,th,akb h,ad,ag hk.fu,ar,hw,hA]
  rw [ajL hk hl ha hsys,ama,aD,List.append_nil]
  cases hh:soE [r9,A,sx acc] (dF r9 A acc) with
  |error e=>
   have he:=BH (fun e h=>o_ h) hh
   rw [show (tE (.error e)).2=e from rfl,dj (show e≠0 by omega),Bool.not_false,ae,amu he];rfl
  |ok y=>rfl
 |cons b r ih=>
  intro p acc m h hm hb hd hacc
  obtain ⟨m,rfl,hm'⟩:=km hm
  obtain ⟨e1,e2,e3,e4⟩:=ln h (by omega)
  obtain ⟨hbk,hbf,hbx⟩:=hx b (by rw [h];simp)
  rw [List.length_cons] at hacc
  have hml:(ac3 t).length≤3:=by unfold ac3;rw [List.length_drop,List.length_take];omega
  have fmk: ∀y∈ac3 t,Fm y:=fun y hy=>ft.kid (rd hy)
  simp only [amU,th,e1,ae,ar]
  refine (afG hk ret (amU k ret t x r8 r9 x12 m) ft.kd0 (by omega) e2 hbk hbf.kd0 (by omega) (ac3 t) [t.kids.getD 0 ao] [r8] k (Lx h1.1).1 fmk (by omega) (by simp;omega)).trans ?_
  have hr8:al4 r8=false:=decide_eq_false (by have:=fb.kd0;omega)
  rw [show ([r8]++amm (ac3 t)).find? al4=(amm (ac3 t)).find? al4 from by show (r8::amm (ac3 t)).find? al4=_;rw [List.find?_cons,hr8],ama]
  cases hh:alM (ac3 t) with
  |error e=>rw [alc fmk hh,lk,lk];rfl
  |ok ms=>
   obtain ⟨u1,u2⟩:=ald fmk hh
   obtain ⟨fm,fml⟩:=I_ fmk hh
   obtain ⟨q1,q2⟩:=pO hkd fb hbf fm (by omega)
   rw [u2,u1,aD,e3]
   refine (ih (p++[b]) (acc++[⟨b.face,[ig t.kind r8 ms (wl b)]⟩]) m e4 hm' (Ju hb (G9 hbx) (q1.mono (by omega))) (by rw [zF,aO,eB,aH,aH,aO];omega) (by rw [List.length_append,List.length_singleton];omega)).trans ?_
   congr 2
   cases ama t.kind r8 (ac3 t) r with
   |error e=>rfl
   |ok l'=>rw [aD,aD,aD,List.append_assoc];rfl
theorem afr (hk4:F4 k) {t:Tm} (ft:Fm t) (hkd:t.kind=22∨t.kind=27) (h15:(adR t).kind=15) (ret:Tm→Option S):am7 k ret t k=ret (rE (amf t.kind (t.kids.getD 0 ao) (ac3 t) (adR t))):=by
 have hk:=hk4.f3
 have hfu:4294968296≤k:=hk
 have hlen:2≤t.kids.length∧t.kids.length≤5:=by
  have:=ft.nk
  rcases hkd with h|h<;>rw [h] at this
  ·have e:ct 22=4:=rfl
   omega
  ·have e:ct 27=5:=rfl
   omega
 obtain ⟨gl,ml⟩:=nw hlen.1
 have fx:=ft.kid ml
 obtain ⟨u,a,hxk⟩:=I8 (E5 fx h15 (n:=2) rfl)
 obtain ⟨gx0,gx1⟩:=KQ hxk
 obtain ⟨dx0,dx1⟩:=EC hxk
 have fu:Fm u:=fx.kid (by rw [hxk];simp)
 have fa:Fm a:=fx.kid (by rw [hxk];simp)
 obtain ⟨sy,syl⟩:=fx.sy h15
 have g0:=KP (show 1≤t.kids.length by omega)
 have fp:Fm (t.kids.getD 0 ao):=ft.kid (by
  match h:t.kids,hlen.1 with
  |a::l,_=>simp)
 have hw:IntKind.wrap .i64 ((t.kids.length:Int)-1)=(t.kids.length:Int)-1:=aaf (by omega) (by omega)
 have hwx:=Jc hk fx
 have htk:Int.toNat ((t.kids.length:Int)-1)=t.kids.length-1:=by omega
 obtain ⟨q,hq⟩: ∃q,k=q+1:=⟨k-1,by omega⟩
 have main: ∀j,j=q+1→am7 k ret t j=ret (rE (amf t.kind (t.kids.getD 0 ao) (ac3 t) (adR t))):=by
  rintro j rfl
  simp only [am7,x_,ag hk.fu,ar,hw,gl,Option.bind_some,gx0,gx1,g0]
  rw [ajP hk (fu.isIn hk) (fa.isIn hk) hwx]
  unfold amf
  rw [dx0,dx1]
  cases hf:soE [u,a,sx (adR t).sys] (amg u a (adR t).sys) with
  |error e=>
   have he:=BH (fun e h=>uw h) hf
   rw [show (tE (.error e)).2=e from rfl,dj (show e≠0 by omega),Bool.not_false,ae,amu he];rfl
  |ok f=>
   obtain ⟨so,ff,hfe⟩:=BI hf
   have hF:Fm f:=⟨(ux hk fu fa (iQ (wg fu.ok fa.ok hwx.1 so).2.2) hfe).1.1,ff⟩
   rw [show (tE (.ok f)).2=0 from rfl,show (tE (.ok f)).1=f from rfl,show (!((0:Int)==0))=false from rfl,ad,aD]
   simp only [DS,TJ,ag hk.fu,ar]
   rw [decide_eq_false (by have:=fp.kd0;omega),ad,anE hk fp (by omega) (by omega)]
   cases hb:su 0 1 (t.kids.getD 0 ao) with
   |error e=>
    have he:=al3 hb
    have hn:decide ((bh e).kind<0)=true:=amC he.1
    rw [show rE (.error e)=bh e from rfl]
    simp only [t7,IA,ar]
    rw [hn,ae,ae];rfl
   |ok b=>
    have fb:=mD (by omega) fp hb
    rw [show rE (.ok b)=b from rfl,ajz hk4 fb hF (by omega),aD]
    cases hp:ams 0 b f with
    |error e=>
     have he:=AL hp
     have hn:decide ((bh e).kind<0)=true:=amC he.1
     rw [show rE (.error e)=bh e from rfl,hn,ae];rfl
    |ok line=>
     have fl:=F5 (by omega) fb hF hp
     rw [show rE (.ok line)=line from rfl,decide_eq_false (by have:=fl.kd0;omega),ad,fN _ (by omega),aD,htk,sf (by simp;omega),sf (by simp;omega)]
     have fm: ∀y∈ac3 t,Fm y:=fun y hy=>ft.kid (rd hy)
     have hml:(ac3 t).length≤3:=by unfold ac3;rw [List.length_drop,List.length_take];omega
     obtain ⟨q1,q2⟩:=pO hkd fp fa fm hml
     exact afF hk ret (A:=ig t.kind (t.kids.getD 0 ao) (ac3 t) a) (by rw [htk,(Lx hlen.1).2];rfl) ft hkd hlen fb sy syl (fl.isIn hk) (q1.isIn hk (by omega)) (adR t).sys [] [] k rfl (by omega) (Dp _) (by rw [aO];omega) (by simpa using syl)
 exact main k hq
theorem ajO (hk4:F4 k) {t:Tm} (ft:Fm t) (ret:Tm→Option S):zy k t ret=ret (if (t.kind=22∨t.kind=27)∧(adR t).kind=15 then rE (amf t.kind (t.kids.getD 0 ao) (ac3 t) (adR t)) else ao):=by
 have hk:=hk4.f3
 simp only [zy,IK,ag hk.fu,ar]
 have hlen:(t.kind=22∨t.kind=27)→2≤t.kids.length:=fun h=>by
  have:=ft.nk
  rcases h with h|h<;>rw [h] at this
  ·have e:ct 22=4:=rfl
   omega
  ·have e:ct 27=5:=rfl
   omega
 have hw:IntKind.wrap .i64 ((t.kids.length:Int)-1)=(t.kids.length:Int)-1:=aaf (by omega) (by have:=ft.ok.no.2.2.2.2.2.1;omega)
 have main:(t.kind=22∨t.kind=27)→ ∀g:Tm→Option S,g (adR t)=ab (!((adR t).kind==15)) (ret ao) (am7 k ret t k)→g (adR t)=ret (if (t.kind=22∨t.kind=27)∧(adR t).kind=15 then rE (amf t.kind (t.kids.getD 0 ao) (ac3 t) (adR t)) else ao):=fun h g hg=>by
  rw [hg]
  by_cases h15:(adR t).kind=15
  case neg=>rw [beq_false_of_ne h15,Bool.not_false,ae,if_neg (fun h=>h15 h.2)]
  rw [if_pos ⟨h,h15⟩,h15,show (!((15:Int)==15))=false from rfl,ad]
  exact afr hk4 ft h h15 ret
 by_cases h22:t.kind=22
 ·rw [show (!(t.kind==22))=false from by simpa using h22,ad,hw,(nw (hlen (.inl h22))).1,Option.bind_some]
  exact main (.inl h22) (fun x=>ab (!(x.kind==15)) (ret ao) (am7 k ret t k)) rfl
 rw [show (!(t.kind==22))=true from by simpa using h22,ae]
 by_cases h27:t.kind=27
 case neg=>rw [show (!(t.kind==27))=true from by simpa using h27,ae,if_neg (fun h=>by omega)];rfl
 rw [show (!(t.kind==27))=false from by simpa using h27,ad,hw,(nw (hlen (.inr h27))).1,Option.bind_some]
 exact main (.inr h27) (fun x=>ab (!(x.kind==15)) (ret ao) (am7 k ret t k)) rfl
theorem acH {kd:Int} {p:Tm} {mid:List Tm} {x:Tm} {e:Int} (h:amf kd p mid x= .error e):0<e∧e≤1000:=by
 unfold amf at h
 rcases be h with h|⟨_,_,h⟩
 ·exact BH (fun e h=>uw h) h
 rcases be h with h|⟨_,_,h⟩
 ·exact al3 h
 rcases be h with h|⟨_,_,h⟩
 ·exact AL h
 rcases be h with h|⟨_,_,h⟩
 ·exact acG h
 ·exact BH (fun e h=>o_ h) h
theorem Z_ {line a y:Tm} {sys:List (Br Tm)} (h:dF line a sys= .ok y):y.kind=15:=by
 unfold dF at h
 obtain ⟨_,_,h⟩:=sm h
 obtain ⟨_,_,h⟩:=sm h
 injection h with h;subst h;rfl
end Go.Proofs.YtfkkpkhfjpaafaaGreatDoor
namespace Go.Proofs.YtfkkpkhfjpaafaaGreatDoor
open Go PI
set_option linter.unusedVariables false
set_option linter.unusedSimpArgs false
set_option maxRecDepth 20000
variable {S:Type} {k:Nat}
theorem ZT {n:Nat} {l:List (Br Tm)} (h:Bs' n l) {f:List Cl} (hf:aq f∧f.length<1073741824) {t:Tm} (ht:Sm n t):Bs' n (⟨f,[t]⟩::l):=by
 refine ⟨?_, ?_, ?_⟩
 ·rw [ba,fc,aZ,aZ];exact ⟨⟨⟨hf.1,hf.2,by simp⟩,ht.ok,trivial⟩,h.ok⟩
 ·rw [aI,fG,ay,ay,List.length_cons,Nat.succ_mul]
  have:=h.siz;have:=ht.siz;omega
 ·rw [aO,eB,aH,aH]
  have:=h.dep;have:=ht.dep;omega
theorem acF {kd:Int} (hkd:kd=22∨kd=27) {b:Tm} {mid:List Tm} (fb:Fm b) (fm: ∀y∈mid,Fm y) (hm:mid.length≤3): ∀ {r l:List (Br Tm)},(∀b∈r,b.kids=[wl b]∧Fm (wl b)∧RX true b.face)→ama kd b mid r= .ok l→Bs' 110000 l∧aO l≤299∧l.length=r.length∧l.map (·.face)=r.map (·.face):=by
 intro r
 induction r with
 |nil=>intro l _ h;rw [ama] at h;injection h with h;subst h;exact ⟨Dp _,by rw [aO];omega,rfl,rfl⟩
 |cons y r ih=>
  intro l hx h
  rw [ama] at h
  obtain ⟨ms,h1,h⟩:=sm h
  obtain ⟨l',h2,h⟩:=sm h
  injection h with h;subst h
  obtain ⟨i1,i2,i3,i4⟩:=ih (fun b hb=>hx b (by simp [hb])) h2
  obtain ⟨_,hbf,hbx⟩:=hx y (by simp)
  obtain ⟨f1,f2⟩:=I_ fm h1
  obtain ⟨q1,q2⟩:=pO hkd fb hbf f1 (by omega)
  refine ⟨ZT i1 (G9 hbx) (q1.mono (by omega)), ?_,by simp [i3],by simp [i4]⟩
  rw [aO,eB,aH,aH];omega
structure ElimP (k:Nat) (t:Tm) (f b line:Tm) (l:List (Br Tm)) (y:Tm):Prop where
 so:alE [(adR t).kids.getD 0 ao,(adR t).kids.getD 1 ao,sx (adR t).sys]=0
 fill:amg ((adR t).kids.getD 0 ao) ((adR t).kids.getD 1 ao) (adR t).sys= .ok f
 up:su 0 1 (t.kids.getD 0 ao)= .ok b
 plug:ams 0 b f= .ok line
 brs:ama t.kind b (ac3 t) (adR t).sys= .ok l
 so2:alE [line,ig t.kind (t.kids.getD 0 ao) (ac3 t) ((adR t).kids.getD 1 ao),sx l]=0
 comp:dF line (ig t.kind (t.kids.getD 0 ao) (ac3 t) ((adR t).kids.getD 1 ao)) l= .ok y
 fy:bw y=0
 ff:Fm f
 fb:Fm b
 fl:Fm line
 fa:Fm (ig t.kind (t.kids.getD 0 ao) (ac3 t) ((adR t).kids.getD 1 ao))
 fw:Fm (sx l)
 bs:l.map (·.face)=(adR t).sys.map (·.face)
 yin:In k y
theorem KC (hk:F3 k) {t y:Tm} (ft:Fm t) (hkd:t.kind=22∨t.kind=27) (h15:(adR t).kind=15) (h:amf t.kind (t.kids.getD 0 ao) (ac3 t) (adR t)= .ok y): ∃f b line l,ElimP k t f b line l y:=by
 unfold amf at h
 obtain ⟨f,h1,h⟩:=sm h
 obtain ⟨b,h2,h⟩:=sm h
 obtain ⟨line,h3,h⟩:=sm h
 obtain ⟨l,h4,h⟩:=sm h
 obtain ⟨so2,fy,hc⟩:=BI h
 obtain ⟨so,ff,hfe⟩:=BI h1
 have hlen:2≤t.kids.length∧t.kids.length≤5:=by
  have:=ft.nk
  rcases hkd with h|h<;>rw [h] at this
  ·have e:ct 22=4:=rfl
   omega
  ·have e:ct 27=5:=rfl
   omega
 obtain ⟨gl,ml⟩:=nw hlen.1
 have fx:=ft.kid ml
 obtain ⟨u,a,hxk⟩:=I8 (E5 fx h15 (n:=2) rfl)
 obtain ⟨dx0,dx1⟩:=EC hxk
 have fu:Fm u:=fx.kid (by rw [hxk];simp)
 have fa:Fm a:=fx.kid (by rw [hxk];simp)
 obtain ⟨sy,syl⟩:=fx.sy h15
 have fp:Fm (t.kids.getD 0 ao):=ft.kid (by
  match h:t.kids,hlen.1 with
  |a::l,_=>simp)
 have hwx:=Jc hk fx
 have fm: ∀y∈ac3 t,Fm y:=fun y hy=>ft.kid (rd hy)
 have hml:(ac3 t).length≤3:=by unfold ac3;rw [List.length_drop,List.length_take];omega
 have hF:Fm f:=⟨(ux hk (dx0▸fu) (dx1▸fa) (iQ (wg (dx0▸fu).ok (dx1▸fa).ok hwx.1 so).2.2) hfe).1.1,ff⟩
 have fb:=mD (by omega) fp h2
 have fl:=F5 (by omega) fb hF h3
 obtain ⟨b1,b2,b3,b4⟩:=acF hkd fb fm hml sy h4
 have hsys:=Jb hk (by omega) b1 (by omega) b2
 obtain ⟨q1,q2⟩:=pO hkd fp (a:=(adR t).kids.getD 1 ao) (dx1▸fa) fm hml
 obtain ⟨f1,f2,f3⟩:=wg fl.ok q1.ok hsys.1 so2
 exact ⟨f,b,line,l,so,hfe,h2,h3,h4,so2,hc,fy,hF,fb,fl,f2,f3,b4,(yu hk f1 f2 (iQ f3) hc).1⟩
theorem ajN (hk4:F4 k) {t:Tm} (ht:In k t) (ret:Tm×Bool×Int→Option S):zx k t ret=ret (pP t):=by
 have hk:=hk4.f3
 simp only [zx,TK,ag hk.fu,ar,anQ ht.1 ht.2.1 ht.2.2]
 unfold pP
 by_cases h0:bw t=0
 case neg=>rw [dj h0,Bool.not_false,ae,if_pos h0];rfl
 rw [h0,show (!((0:Int)==0))=false from rfl,ad,if_neg (by simp)]
 have ft:Fm t:=⟨ht.1,h0⟩
 rw [ajO hk4 ft]
 split
 case isTrue hc=>
  rw [aiX hk (fun e h=>acH h) (fun y h=>by
   obtain ⟨f,b,line,l,hp⟩:=KC hk ft hc.1 hc.2 h
   exact ⟨hp.yin,by rw [Z_ hp.comp];decide⟩)]
 case isFalse hc=>rw [aiY]
theorem acE (hk:F3 k) {t:Tm} (ht:In k t):In k (pP t).1:=by
 unfold pP
 by_cases h0:bw t=0
 case neg=>rw [if_pos h0];exact gQ hk
 rw [if_neg (by simp [h0])]
 have ft:Fm t:=⟨ht.1,h0⟩
 split
 case isTrue hc=>
  cases hh:amf t.kind (t.kids.getD 0 ao) (ac3 t) (adR t) with
  |error e=>exact gQ hk
  |ok y=>
   obtain ⟨f,b,line,l,hp⟩:=KC hk ft hc.1 hc.2 hh
   show In k (if bw y=0 then (y,true,(0:Int)) else (ao,false,bw y)).1
   split
   ·exact hp.yin
   ·exact gQ hk
 case isFalse hc=>exact gQ hk
theorem aiQ (hk4:F4 k) {t:Tm} (ht:In k t) (ret:Bool→Option S):DQ k t ret=ret true:=by
 have hk:=hk4.f3
 simp only [DQ,SQ,ag hk.fu,ar,aj2 hk,ajM t ht.1 _ ht.2.1,ajh hk4 ht,ajN hk4 ht,DR,SR]
 obtain ⟨w,hw⟩:=ajK t ht.1 150 (fun r1=>ab (decide (r1>150)) (ret true) (ret true)) ht.2.1
 have hres:=acE hk ht
 simp only [RQ _ hres.1 _ hres.2.1,RQ t ht.1 _ ht.2.1,ae,beq_self_eq_true]
 exact hw.trans (aj5 _ _)
end Go.Proofs.YtfkkpkhfjpaafaaGreatDoor
namespace Go.Proofs.YtfkkpkhfjpaafaaGreatDoor
open Go PI Go.ChangeShapes Go.WideShapes Go.ChangeAt Go.RowKit
set_option linter.unusedVariables false
set_option linter.unusedSimpArgs false
set_option maxRecDepth 100000
set_option maxHeartbeats 4000000
theorem adj {k:Nat} (hk:4296016872≤k) {H:Type} {t:Tm} {d:DataW H} (h:QT t d) (hb:Rows.uptoBulk d≤1048576):In k t:=by
 have h1:=h.1
 have h2:=zG t
 exact ⟨h.2 (by omega),by unfold Fd;omega,by omega⟩
theorem agd {k:Nat} (hk:4296016872≤k) {o:Obj} (ho:ai o) {t0:Tm} (h0:In k t0):
  ci (LL o) 3 [.agg (d6 ET.T t0)] [] (.ret (.bool true) []):=by
 have hF:F4 k:=by unfold F4;omega
 obtain ⟨j,rfl⟩: ∃j,k=j+1:=⟨k-1,by omega⟩
 obtain ⟨out,hout,hx⟩:=akQ (S:=Out UU) o ho (j+1) [.agg (d6 ET.T t0)] [] some (.ret (.bool true) []) (by
  cases t0
  exact Eq.trans (by kernel_rfl) (aiQ hF h0 fun r=>some (Out.ret (U:=UU) (.bool r) [])))
 injection hx with hx
 exact hx▸hout
theorem agc (H:Type) (enc:TypeId×Value→H) (W:World) (base:Nat) (args:Array Value) (ds gs:List (DataW H)) (before:List MemPlace)
  (hval: ∀ (j:Nat) t v,Tryz.f3.params[j]? =some t→args[j]? =some v→Value.okWide Tryz.prog W .any base t v)
  (hW:DataW.Whole enc Tryz.prog Tryz.f3.params.toList Rows.hitElimsSpec.vars false W args.toList ds gs before) (hL:laidMetH Tryz.prog Rows.hitElimsRow.laid W) (hb:Rows.uptoBulkAll (ds++gs)≤1048576):
  Calls Tryz.prog 3 args W fun e W'=> ∃v,e= .returned v∧Rows.hitElimsSpec.post enc Tryz.prog Tryz.f3 false true false false W args v W':=by
 have hW':=hW
 obtain ⟨p,q,hA0,hV,rfl,hfz,hnd⟩:=hW
 have hA:DataW.TrodAll enc Tryz.prog W 0 (fun _=>true) true Tryz.f3.params.toList args.toList ds p:=hA0
 rw [Tryz.params3] at hA hval
 obtain ⟨v0,vs0,d0,ds0,p0,q0,hargs,rfl,rfl,h0,r0⟩:=trodAll_cons hA
 obtain ⟨rfl,rfl,rfl⟩:=trodAll_nil r0
 obtain rfl:args= #[v0]:=by cases args;simp_all
 obtain ⟨rfl,rfl⟩:=trodVars_none hV
 obtain ⟨o,ho,hh⟩:=akL hL
 simp only [List.append_nil,Rows.uptoBulkAll,Nat.add_zero] at hb
 obtain ⟨t0,e0,k0⟩:=ZG (o:=o) (g:=gB UU 0 fun _=>0) noN h0
 have hk:(4296016872:Nat)≤4296016872:=Nat.le_refl _
 generalize hkk:(4296016872:Nat)=k at hk
 have hok:=agd (k:=k) (by omega) ho (adj (by omega) k0 (by omega))
 refine (ZW hok (adb hh rfl rfl fun j p hj=> ?_)).mono ?_
 ·match j,hj with
  |0,hj=>cases hj;exact e0
  |j+1,hj=>simp at hj
 ·rintro e W' ⟨rfl,hkept⟩
  refine ⟨_,rfl,ahF rfl rfl (fun t ht=> ?_) rfl hW' hkept⟩
  rw [Tryz.params3] at ht
  have ht':t=26:=by simpa using ht
  rcases ht' with rfl<;>exact of_decide_eq_true (by kernel_rfl)
noncomputable def Fb (os:Os):World:=
 {World.holding Tryz.prog os ⟨#[],#[],[]⟩ with heap:=(World.holding Tryz.prog os ⟨#[],#[],[]⟩).heap.modify 0 fun
   | .cells _ t frozen=> .cells (Lib.deBruijn32tab.map fun n:Nat=>Value.int .u8 n).toArray t frozen
   |o=>o}
def alC:Value:= .agg #[.int .i64 0,.int .i64 0,.string ByteArray.empty,.slice none 0 0,.slice none 0 0,.slice none 0 0]
def zeroArgs:Array Value:= #[alC]
def alA {H:Type}:DataW H:= .agg [.lit (.int .i64 0),.lit (.int .i64 0),.lit (.string []),.nil,.nil,.nil]
theorem af_ (os:Os):laidMet Tryz.prog Rows.hitElimsRow.laid ((Fb os).forCall (fun _ _=>0) ⟨#[],zeroArgs,[]⟩).memory:=
 laidMet_of_run' 8 (by kernel_rfl) (by kernel_rfl)
theorem aim (os:Os) {H:Type} (enc:TypeId×Value→H): ∃places,DataW.whole enc Tryz.prog ((Fb os).forCall (fun _ _=>0) ⟨#[],zeroArgs,[]⟩).memory Tryz.f3.params.toList Rows.hitElimsSpec.vars false zeroArgs.toList 8=some ([alA],[],places):=
 ⟨[],by kernel_rfl⟩
theorem agw (os:Os) (started:os.Started) (H:Type) (enc:TypeId×Value→H) (F:Stop.Interp):
  ReturnsInHanded {} Tryz.checked os 3 .any ((Rows.OpenSpec.upto Rows.hitElimsSpec).preRow enc Tryz.prog Tryz.f3 Rows.hitElimsUptoRow.domain false Rows.hitElimsUptoRow.laid) (((Rows.OpenSpec.upto Rows.hitElimsSpec).at F).post enc Tryz.prog Tryz.f3 false true false false):=by
 obtain ⟨places,hx⟩:=aim os enc
 refine returnsInHanded_of_row (C:=Tryz.checked) (s:=Rows.OpenSpec.upto Rows.hitElimsSpec) own started (by kernel_rfl) Tryz.func3
  (witness_row_at (enc:=enc) (C:=Tryz.checked) false (Fb os) zeroArgs rfl (by kernel_rfl) (by kernel_rfl) (by kernel_rfl)
   (OpenSpec.preRow_of_cond 8 hx (by kernel_rfl) (fun k hk=>by cases hk;kernel_rfl) (by kernel_rfl) (af_ os))) ?_
 intro W base args ds gs before hval hW _ hcond _ hL _ _
 exact agc H enc W base args ds gs before hval hW hL (of_decide_eq_true (hcond _ rfl))
theorem aj3:Rows.HitElimsUptoSaid:=
 OpenClaim.holds_of_cond 3 Tryz.f3 rfl rfl rfl rfl rfl rfl rfl ⟨rfl,rfl,rfl,rfl,rfl⟩ rfl rfl rfl rfl rfl (by as_aux_lemma=>kernel_rfl) Tryz.func3 adt
  (of_decide_eq_true (by as_aux_lemma=>kernel_rfl)) (by unfold Func.isWrapper;first|(rw [if_pos (by decide+kernel)];kernel_rfl)|(rw [if_neg (by decide+kernel)];exact ⟨rfl,rfl⟩))
  (fun os started H enc _ F=>by rw [OpenClaim.pre_eq_preRow];exact agw os started H enc F)
theorem plain (f:FuncId) (fn:Func) (hf:Tryz.pinned.checked.prog.funcNamed "hypercube/hypercubelaw17.HitElims" =some f) (hfn:Tryz.pinned.checked.prog.funcs[f]? =some fn):
  true=Tryz.pinned.checked.prog.looks []∧ ∀ (j:Nat) t,fn.params[j]? =some t→Tryz.pinned.checked.prog.wantsStandIn t=false:=by
 obtain rfl:f=3:=Option.some.inj ((show Tryz.prog.funcNamed "hypercube/hypercubelaw17.HitElims" =some 3 by kernel_rfl).symm.trans hf)|>.symm
 obtain rfl:fn=Tryz.f3:=(Option.some.inj (Tryz.func3.symm.trans hfn)).symm
 refine ⟨by kernel_rfl,fun j t ht=> ?_⟩
 rw [Tryz.params3] at ht
 have ht':t=26:=by simpa using Array.mem_of_getElem? ht
 rcases ht' with rfl
 ·exact (show Tryz.prog.wantsStandIn 26=false by kernel_rfl)
theorem hitElims_holds:Rows.HitElimsUptoCardSaid:=
 Claim7.holds_tied_plain_at .later [] _ _ _ _ aj3 (fun _ h=>by cases h) (by as_aux_lemma=>kernel_rfl) (fun _ h=>by cases h) hitElimsUpto_row_tie rfl ⟨rfl,rfl⟩ (by as_aux_lemma=>kernel_rfl) rfl plain (by as_aux_lemma=>kernel_rfl)
#print axioms hitElims_holds
end Go.Proofs.YtfkkpkhfjpaafaaGreatDoor
