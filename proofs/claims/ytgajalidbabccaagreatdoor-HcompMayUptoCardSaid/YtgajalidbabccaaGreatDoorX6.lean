/- hypercubelaw20.HcompMay returns true for every term and any numbers of variables and dimensions: what a composition that may be becomes may be; the card with an upper bound of the input's bulk. -/
import Derived.Test.YtgajalidbabccaaGreatDoorX5
import Derived.KernelRfl
namespace Go.Proofs.YtgajalidbabccaaGreatDoor
open Go PI
set_option linter.unusedVariables false
set_option linter.unusedSimpArgs false
set_option maxRecDepth 20000
variable {S:Type} {k:Nat}
theorem Vc {t a f y x:Tm} (h:kU t a f y= .ok x):aG x=max (aG t) (max (1+aG a) (max (aG y) (aG f))):=by
 unfold kU at h
 obtain ⟨a',e1,h⟩:=ae h
 obtain ⟨y',e2,h⟩:=ae h
 obtain ⟨f',e3,h⟩:=ae h
 injection h with h;subst h
 have b1: ∀kd i,aG (aw kd i)=max (bO kd 0 i) 0:=fun kd i=>by unfold aw;rw [aG,aZ]
 have hv:aG (vN 0)=0:=by unfold vN;rw [aG,bO,aZ];rfl
 rw [b1,bO,bO,bO,b1,bO,bO,bO,bO,b1,bO,bO,bO,hv,iJ e1,iJ e2,iJ e3]
 have:=eF t;have:=eF a;have:=eF y;have:=eF f
 have e: ∀i,aR 7 i=0∧aR 6 i=0:=fun i=>by unfold aR;constructor<;>rw [if_neg (by omega)]
 have e0:aR 11 ((0:Nat):Int)=1:=rfl
 have e1:aR 11 ((0+1:Nat):Int)=0:=rfl
 have e2:aR 11 ((0+1+1:Nat):Int)=0:=rfl
 simp only [e,e0,e1,e2]
 omega
theorem af3 {V D:Int} {t a x:Tm} (ft:Fd2 150 150 t) (fa:Fd2 150 150 a) (hD:0≤D∧D≤12) (hV:0≤V) (s1:aF V D t) (s2:aF V D a) (hb:aG t≤8) (hba:aG a≤8) (h:eW t a= .ok x):aF V D x:=by
 obtain ⟨a1,h1,h⟩:=ae h
 obtain ⟨y,h2,h⟩:=ae h
 obtain ⟨t',h3,h⟩:=ae h
 obtain ⟨a',h4,h⟩:=ae h
 obtain ⟨z,h5,h⟩:=ae h
 obtain ⟨c,h6,h⟩:=ae h
 injection h with h;subst h
 have mt:=ft.fm (by omega) (by omega)
 have ma:=fa.fm (by omega) (by omega)
 have hle:=uW s1
 have ft':=ft.up (by omega) h3
 have fa':=fa.up (by omega) h4
 have fz:=Cw (by omega) (by omega) ft' fa' (kV (by omega) (by omega) (.inr rfl)) (kV (by omega) (by omega) (.inl rfl)) h5
 have u1:=c8 ma (by omega) (by omega) hV s2 (by omega) h1
 have u2:=c8 ma (by omega) (by omega) hV s2 (by omega) h2
 have u3:=c8 mt (by omega) (by omega) hV s1 (by omega) h3
 have u4:=c8 ma (by omega) (by omega) hV s2 (by omega) h4
 rw [Int.add_zero] at u1 u2 u3 u4
 have hv: ∀n,aG (vN n)=0:=fun n=>by unfold vN;rw [aG,bO,aZ];rfl
 have b3:=iJ h3
 have b4:=iJ h4
 have hv0:=hv 0;have hv1:=hv 1
 have uz:=af5 (fa'.fm (by omega) (by omega)) fm_v1 fm_v0 hD.1 (by omega) u3 u4 (gX (by omega) (by omega) hle) (gX (by omega) (by omega) hle) (by omega) (by omega) (by omega) h5
 have bz:=Vc h5
 rw [b3,b4,hv0,hv1] at bz
 have uc:=af2 (fz.fm (by omega) (by omega)) hD.1 (by omega) uz (by omega) h6
 refine eR (by decide) rfl hle (all2.2 ⟨?_, ?_⟩)
 ·show aF (a6 V 0) (D+0) _
  rw [cO,Int.add_zero]
  refine eR (by decide) rfl hle (all2.2 ⟨?_, ?_⟩)
  ·show ay true (a6 V 0) (D+0) t=true
   rw [cO,Int.add_zero];exact s1
  ·show ay true (a6 V 1) (D+0) a1=true
   rw [kx hV,Int.add_zero];exact u1
 ·show aF (a6 V 1) (D+0) _
  rw [kx hV,Int.add_zero]
  refine eR (by decide) rfl hle (all2.2 ⟨?_, ?_⟩)
  ·show ay true (a6 (V+1) 0) (D+0) y=true
   rw [cO,Int.add_zero];exact u2
  ·show ay true (a6 (V+1) 1) (D+0) c=true
   rw [kx (by omega),Int.add_zero,show V+1+1=V+2 by omega];exact uc
def il (t:Tm) (V D:Int):Int:=if V<0∨D<0∨D>24 then 2 else if ai t>200 then 62 else if ao t>20000 then 221 else if ay true V D t then 0 else 100
theorem N4 {t:Tm} (ht:In k t) (hk:F3 k) {V D:Int} (hV:V<9223372036854775808) (hD:D<1000000) (ret:Int→Option S):tb k t V D ret=ret (il t V D):=by
 simp only [tb,P0,ap hk.fu,aJ,cM]
 unfold il
 by_cases h1:V<0
 ·rw [if_pos h1,if_pos (.inl h1)]
 rw [if_neg h1]
 by_cases h2:D<0
 ·rw [if_pos h2,if_pos (.inr (.inl h2))]
 rw [if_neg h2]
 by_cases h3:D>24
 ·rw [if_pos h3,if_pos (.inr (.inr h3))]
 have hdep:=ht.dep
 rw [if_neg h3,if_neg (by omega),N3 ht.1 ht.2.1]
 by_cases h4:ai t>200
 ·rw [if_pos h4,if_pos h4];rfl
 rw [if_neg h4,if_neg h4]
 by_cases h5:ao t>20000
 ·rw [if_pos h5,if_pos h5];rfl
 rw [if_neg h5,if_neg h5,show (!((0:Int)==0))=false from rfl,af,NG t ht.1 _ ht.2.1 ⟨by omega,by omega,by omega,by omega⟩]
 cases ay true V D t<;>rfl
theorem M_ {t:Tm} {V D:Int} (h:il t V D=0):0≤V∧0≤D∧aF V D t:=by
 unfold il at h
 split at h
 ·cases h
 split at h
 ·cases h
 split at h
 ·cases h
 split at h
 ·exact ⟨by omega,by omega,by assumption⟩
 ·cases h
theorem aeK {t:Tm} {V D:Int} (h:bQ t=0) (hV:0≤V) (hD:0≤D) (hs:aF V D t):il t V D=0:=by
 have hle:=uW hs
 obtain ⟨h1,h2,_⟩:=ew h
 unfold il
 rw [if_neg (by omega),if_neg (by omega),if_neg (by omega),if_pos hs]
theorem kn {l:List Tm} {x:Except Int Tm} {t:Tm} (h:bY l x= .ok t):cA l=0∧bQ t=0∧x= .ok t:=by
 unfold bY at h
 split at h
 case isFalse=>cases h
 rename_i h1
 unfold gJ at h
 obtain ⟨t',h3,h⟩:=ae h
 split at h
 case isFalse=>cases h
 rename_i h4
 injection h with h;subst h
 exact ⟨h1,h4,h3⟩
theorem agq {l:List Tm} {x:Except Int Tm} {e:Int} (hx: ∀e,x= .error e→e≠0) (h:bY l x= .error e):e≠0:=by
 unfold bY at h
 split at h
 ·unfold gJ at h
  rcases aW h with h|⟨t,_,h⟩
  ·exact hx e h
  ·split at h
   ·cases h
   ·rename_i hne;injection h with h;exact h▸hne
 ·rename_i hne;injection h with h;exact h▸hne
end Go.Proofs.YtgajalidbabccaaGreatDoor
namespace Go.Proofs.YtgajalidbabccaaGreatDoor
open Go PI
set_option linter.unusedVariables false
set_option linter.unusedSimpArgs false
set_option maxRecDepth 20000
variable {S:Type} {k:Nat}
def h9 {α:Type} (x:Except Int α):Int:=match x with
 | .ok _=>0
 | .error e=>e
end Go.Proofs.YtgajalidbabccaaGreatDoor
namespace Go.Proofs.YtgajalidbabccaaGreatDoor
open Go PI
set_option linter.unusedVariables false
set_option linter.unusedSimpArgs false
set_option maxRecDepth 20000
variable {S:Type} {k:Nat}
theorem agn {n:Nat}: ∀ {l:List Tm},(∀x∈l,ao x≤n)→au l≤l.length*n:=by
 intro l
 induction l with
 |nil=>intro _;rw [au];simp
 |cons x l ih=>
  intro h
  rw [au,List.length_cons,Nat.succ_mul]
  have:=ih fun y hy=>h y (by simp [hy])
  have:=h x (by simp)
  omega
theorem Wd {n:Nat}: ∀ {l:List Tm},(∀x∈l,ai x≤n)→ax l≤n:=by
 intro l
 induction l with
 |nil=>intro _;rw [ax];omega
 |cons x l ih=>intro h;rw [ax];have:=ih fun y hy=>h y (by simp [hy]);have:=h x (by simp);omega
theorem ahB (hk:F3 k) {n:Nat} (hn:n≤50000000) {l:List (Br Tm)} (h:Bs' n l) (hl:l.length≤20000) (hd:aM l≤299):In k (a7 l):=by
 have hz:aA l≤1000000000000:=Nat.le_trans h.siz (Nat.le_trans (Nat.mul_le_mul hl hn) (by omega))
 have hs:ao ar≤1:=by unfold ar;rw [ao,au,aA];omega
 have hdn:ai ar≤1:=by unfold ar;rw [ai,ax,aM];omega
 refine (show Sm (10+1000000000000+1) (a7 l) from ?_).isIn hk (by omega)
 unfold a7
 exact mP (kd:=15) (by omega) (r:=[]) ⟨(fun c hc=>by cases hc),by simp⟩ (fun x hx=>by
  simp at hx
  subst hx
  refine ⟨?_, ?_⟩
  ·rw [OkT,aL,aU];exact ⟨⟨by unfold aK;omega,by unfold aK;omega,by decide,(fun c hc=>by cases hc),by simp,by simp,by simp⟩,trivial,trivial⟩
  ·rw [ai,ax,aM];omega) (by simp) (by rw [au,au,au,ao,au,aA];simp) h.ok (by omega) hd hz
end Go.Proofs.YtgajalidbabccaaGreatDoor
namespace Go.Proofs.YtgajalidbabccaaGreatDoor
open Go PI
set_option linter.unusedVariables false
set_option linter.unusedSimpArgs false
set_option maxRecDepth 20000
variable {S:Type} {k:Nat}
theorem Au (hk:F3 k) {x:Tm} (fx:Fm x):In k (a7 x.sys):=by
 obtain ⟨o1,o2,o3,o4,o5,o6,o7⟩:=fx.ok.no
 have hs:aU x.sys:=by have:=fx.ok;cases x;rw [OkT] at this;exact this.2.2
 have hd:aM x.sys≤299:=by have:=fx.dep;cases x;rw [ai] at this;show aM _≤299;simp only [Tm.sys];omega
 have hz:aA x.sys≤20000:=by have:=fx.siz;cases x;rw [ao] at this;show aA _≤20000;simp only [Tm.sys];omega
 unfold a7
 exact (mP (kd:=15) (by omega) (r:=[]) ⟨(fun c hc=>by cases hc),by simp⟩ (n:=10) (fun y hy=>by
  simp at hy
  subst hy
  refine ⟨?_, ?_⟩
  ·rw [OkT,aL,aU];exact ⟨⟨by unfold aK;omega,by unfold aK;omega,by decide,(fun c hc=>by cases hc),by simp,by simp,by simp⟩,trivial,trivial⟩
  ·rw [ai,ax,aM];omega) (by simp) (by rw [au,au,au,ao,au,aA];simp) hs (by omega) hd hz).isIn hk (by omega)
theorem u7 {l:List Tm} {x:Except Int Tm} {e:Int} (hx: ∀e,x= .error e→0<e∧e≤1000) (h:bY l x= .error e):e≠0:=agq (fun e h=>by have:=hx e h;omega) h
theorem oF {a b c:Tm} (ha:OkT a) (hb:OkT b) (hc:OkT c) (h:cA [a,b,c]=0):Fm a∧Fm b∧Fm c:=by
 have:=u9 (l:=[a,b,c]) (fun x hx=>by
  simp at hx
  rcases hx with rfl|rfl|rfl
  ·exact ha
  ·exact hb
  ·exact hc) h
 exact ⟨this a (by simp),this b (by simp),this c (by simp)⟩
end Go.Proofs.YtgajalidbabccaaGreatDoor
namespace Go.Proofs.YtgajalidbabccaaGreatDoor
open Go PI
set_option linter.unusedVariables false
set_option linter.unusedSimpArgs false
set_option maxRecDepth 20000
variable {S:Type} {k:Nat}
end Go.Proofs.YtgajalidbabccaaGreatDoor
namespace Go.Proofs.YtgajalidbabccaaGreatDoor
open Go PI
set_option linter.unusedVariables false
set_option linter.unusedSimpArgs false
set_option maxRecDepth 20000
variable {S:Type} {k:Nat}
theorem Ad {l:List Tm} {x:Except Int Tm} {e:Int} (hx: ∀e,x= .error e→0<e∧e≤1000) (h:bY l x= .error e):0<e∧e≤1000:=by
 unfold bY at h
 have hs:=agx l
 split at h
 ·unfold gJ at h
  rcases aW h with h|⟨t,_,h⟩
  ·exact hx e h
  ·have:=Cz t
   split at h
   ·cases h
   ·rename_i hne;injection h with h;subst h;omega
 ·rename_i hne;injection h with h;subst h;omega
end Go.Proofs.YtgajalidbabccaaGreatDoor
namespace Go.Proofs.YtgajalidbabccaaGreatDoor
open Go PI
set_option linter.unusedVariables false
set_option linter.unusedSimpArgs false
set_option maxRecDepth 20000
variable {S:Type} {k:Nat}
def k1 (b:Br Tm):Tm:=b.kids.getD 1 ar
theorem Fm.gl {t:Tm} (h:Fm t) (hk:t.kind=16):(∀b∈t.sys,b.kids=[ak b,k1 b]∧Fm (ak b)∧Fm (k1 b)∧RX true b.face)∧t.sys.length≤20000∧ ∃a,t.kids=[a]∧Fm a:=by
 have ho:=h.own
 have hall: ∀b∈t.sys,b.kids.length=2:=fun b hb=>by
  obtain ⟨kd,n,nm,r,ks,sys⟩:=t
  have hk:kd=16:=hk
  subst hk
  have ho:(_&&(sys.all (aQ 16 24)&&_))=true:=ho
  simp only [Bool.and_eq_true] at ho
  have:=List.all_eq_true.1 ho.2.1 b hb
  unfold aQ at this
  simp only [Bool.and_eq_true,decide_eq_true_eq] at this
  have h1:=this.1
  have:dN 16=2:=rfl
  omega
 refine ⟨fun b hb=> ?_, ?_, ?_⟩
 ·have hl:=hall b hb
  obtain ⟨f,ks⟩:=b
  match ks,hl with
  |[a,c],_=>exact ⟨rfl,h.brk hb (by simp [ak]),h.brk hb (by simp [k1]),h.face hb⟩
 ·have h1:=h.siz
  have h2:=ju t
  have: ∀ {l:List (Br Tm)},(∀b∈l,b.kids.length=2)→l.length≤aA l:=by
   intro l
   induction l with
   |nil=>intro _;simp
   |cons b l ih=>
    intro hl
    have:=ih fun b hb=>hl b (by simp [hb])
    have hb:=hl b (by simp)
    obtain ⟨f,ks⟩:=b
    match ks,hb with
    |a::ks,_=>rw [aA,d4,au,List.length_cons];have:=km a;omega
  have:=this hall
  omega
 ·have hn:=h.nk
  rw [hk] at hn
  have e:fT 16=1:=rfl
  obtain ⟨a,ha⟩:=acN (t:=t) (by omega)
  exact ⟨a,ha,h.kid (by rw [ha];simp)⟩
def bN (g:Tm):List (Br Tm):=g.sys.map fun x=>⟨x.face,[k1 x]⟩
abbrev cR (a:Tm) (es:List (Br Tm)):Tm:= .mk 18 0 ByteArray.empty [] [a] es
abbrev ej:Tm:= .mk 3 0 ByteArray.empty [] [] []
abbrev oC (u:Tm) (ks:List Tm):Tm:= .mk u.kind u.n u.name u.r ks u.sys
def ez (es:List (Br Tm)):List (Br Tm)→Except Int (List (Br Tm))
 |[]=> .ok []
 |x::l=>bE (aD 0 1 (cR ej es)) fun u=>bE (ez es l) fun l'=> .ok (⟨x.face,[oC u [ak x]]⟩::l')
def eO (b:Tm) (sys:List (Br Tm)):List (Br Tm)→Except Int (List (Br Tm))
 |[]=> .ok []
 |x::l=>bE (aD 0 1 (k1 x)) fun f=>bE (bY [ak x,b,a7 sys] (dp (ak x) b sys)) fun w=>bE (eO b sys l) fun l'=> .ok (⟨x.face,[aw 6 [aw 9 [f],w]]⟩::l')
def ic (b:Tm) (sys:List (Br Tm)) (l:List (Br Tm)):List (Br Tm):=l.map fun x=>⟨x.face,[.mk 15 0 ByteArray.empty [] [ak x,b] sys]⟩
def qE (g b:Tm) (sys l1 l2:List (Br Tm)):Tm:= .mk 17 0 ByteArray.empty [] [.mk 15 0 ByteArray.empty [] [g.kids.getD 0 ar,cR b (bN g)] (l1++l2)] (ic b sys g.sys)
def oa (t:Tm):Except Int Tm:=
 bE (ez (bN (t.kids.getD 0 ar)) t.sys) fun l1=>bE (eO (t.kids.getD 1 ar) t.sys (t.kids.getD 0 ar).sys) fun l2=> .ok (qE (t.kids.getD 0 ar) (t.kids.getD 1 ar) t.sys l1 l2)
def DA (t:Tm):Tm×Bool×Int:=
 if bQ t≠0 then (ar,false,bQ t) else
 if t.kind=15∧(t.kids.getD 0 ar).kind=16 then lE (oa t) else (ar,false,0)
theorem Zj {es:List (Br Tm)}: ∀ {l:List (Br Tm)} {e:Int},ez es l= .error e→0<e∧e≤1000:=by
 intro l
 induction l with
 |nil=>intro e h;cases h
 |cons x l ih=>
  intro e h
  rw [ez] at h
  rcases aW h with h|⟨_,_,h⟩
  ·exact bV h
  rcases aW h with h|⟨_,_,h⟩
  ·exact ih h
  ·cases h
theorem Zl {b:Tm} {sys:List (Br Tm)}: ∀ {l:List (Br Tm)} {e:Int},eO b sys l= .error e→0<e∧e≤1000:=by
 intro l
 induction l with
 |nil=>intro e h;cases h
 |cons x l ih=>
  intro e h
  rw [eO] at h
  rcases aW h with h|⟨_,_,h⟩
  ·exact bV h
  rcases aW h with h|⟨_,_,h⟩
  ·exact Ad (fun e h=>tv h) h
  rcases aW h with h|⟨_,_,h⟩
  ·exact ih h
  ·cases h
def eD (n:Nat) (l:List (Br Tm)):Prop:= ∀x∈l,∃t,x.kids=[t]∧Sm n t∧ai t≤299∧aE x.face∧x.face.length<1073741824
theorem nn (n:Nat):eD n []:=fun x hx=>by cases hx
theorem nj {n:Nat} {l:List (Br Tm)} {f:List Cl} {t:Tm} (hf:aE f∧f.length<1073741824) (ht:Sm n t) (hd:ai t≤299) (h:eD n l):eD n (⟨f,[t]⟩::l):=fun x hx=>by
 rcases List.mem_cons.1 hx with rfl|hx
 ·exact ⟨t,rfl,ht,hd,hf⟩
 ·exact h x hx
theorem BA {n:Nat} {a b:List (Br Tm)} (ha:eD n a) (hb:eD n b):eD n (a++b):=fun x hx=>(List.mem_append.1 hx).elim (ha x) (hb x)
def FN (x:Tm):Prop:=Fm x∨x=ar
theorem FN.sm {x:Tm} (h:FN x):Sm 20000 x∧ai x≤200:=by
 rcases h with h|rfl
 ·exact ⟨h.sm,h.dep⟩
 ·exact ⟨acD,by unfold ar;rw [ai,ax,aM];omega⟩
theorem ef {c:Int} {x:Except Int Tm} (h: ∀t,x= .ok t→Fm t):FN (mM c x).1:=by
 unfold mM
 split
 ·cases x with
  |error e=>exact .inr rfl
  |ok t=>exact .inl (h t rfl)
 ·exact .inr rfl
theorem E5 {u a:Tm} (hu:FN u) (ha:Fm a):Sm 50000 (oC u [a])∧ai (oC u [a])≤299:=by
 obtain ⟨h1,h2⟩:=hu.sm
 obtain ⟨o1,o2,o3,o4,o5,o6,o7⟩:=h1.ok.no
 have hs:aU u.sys:=by have:=h1.ok;cases u;rw [OkT] at this;exact this.2.2
 have hd:aM u.sys+1≤ai u:=by cases u;rw [ai];simp only [Tm.sys];omega
 have hz:aA u.sys+1≤ao u:=by cases u;rw [ao];simp only [Tm.sys];omega
 have:=h1.siz;have:=ha.siz;have:=ha.dep
 refine ⟨⟨?_, ?_, ?_⟩, ?_⟩
 ·rw [OkT,aL,aL];exact ⟨⟨o1,o2,o3,o4,o5,by simp,o7⟩,⟨ha.ok,trivial⟩,hs⟩
 ·rw [ao,au,au];omega
 ·rw [ai,ax,ax];omega
 ·rw [ai,ax,ax];omega
theorem oE {kd:Int} (hkd:0≤kd∧kd≤28) {n:Nat} {ks:List Tm} (h: ∀x∈ks,Sm n x∧ai x≤290) (hl:ks.length≤4):Sm (4*n+1) (aw kd ks)∧ai (aw kd ks)≤291:=by
 have hd:ax ks≤290:=Wd fun x hx=>(h x hx).2
 have hz:au ks≤4*n:=Nat.le_trans (agn fun x hx=>(h x hx).1.siz) (Nat.mul_le_mul_right _ hl)
 unfold aw
 refine ⟨(mP (kd:=kd) hkd (r:=[]) ⟨(fun c hc=>by cases hc),by simp⟩ (ks:=ks) (sys:=[]) (n:=4*n) (m:=0) (fun x hx=>⟨(h x hx).1.ok,by have:=(h x hx).2;omega⟩) (by omega) hz (by rw [aU];trivial) (by simp) (by rw [aM];omega) (by rw [aA];omega)).mono (by omega), ?_⟩
 rw [ai,aM];omega
theorem wR {n:Nat} {l:List (Br Tm)} (h:eD n l):Bs' n l∧aM l≤299:=by
 induction l with
 |nil=>exact ⟨VG _,by rw [aM];omega⟩
 |cons x l ih=>
  obtain ⟨i1,i2⟩:=ih fun x hx=>h x (by simp [hx])
  obtain ⟨t,e,h1,h2,h3,h4⟩:=h x (by simp)
  obtain ⟨f,ks⟩:=x
  have e:ks=[t]:=e
  subst e
  refine ⟨?_, ?_⟩
  ·refine ⟨?_, ?_, ?_⟩
   ·rw [aU,dP,aL,aL];exact ⟨⟨⟨h3,h4,by simp⟩,h1.ok,trivial⟩,i1.ok⟩
   ·rw [aA,d4,au,au,List.length_cons,Nat.succ_mul];have:=i1.siz;have:=h1.siz;omega
   ·rw [aM,eL,ax,ax];omega
  ·rw [aM,eL,ax,ax];omega
theorem HV {g:Tm} (fg:Fm g) (hg:g.kind=16):aU (bN g)∧aM (bN g)≤aM g.sys∧aA (bN g)≤aA g.sys∧(bN g).length=g.sys.length∧aI false (-1) 24 18 (bN g)=true∧(bN g).all (aQ 18 24)=true:=by
 obtain ⟨hx,hl,_⟩:=fg.gl hg
 unfold bN
 generalize g.sys=l at hx
 clear hl
 induction l with
 |nil=>refine ⟨by rw [List.map_nil,aU];trivial,Nat.le_refl _,Nat.le_refl _,rfl,by rw [List.map_nil,aI],rfl⟩
 |cons x l ih=>
  obtain ⟨i1,i2,i3,i4,i5,i6⟩:=ih fun b hb=>hx b (by simp [hb])
  obtain ⟨q1,q2,q3,q4⟩:=hx x (by simp)
  obtain ⟨f,ks⟩:=x
  have q1:ks=[ak ⟨f,ks⟩,k1 ⟨f,ks⟩]:=q1
  have r1:=kj q4
  rw [List.map_cons]
  refine ⟨?_, ?_, ?_,by rw [List.length_cons,List.length_cons,i4], ?_, ?_⟩
  ·rw [aU,dP,aL,aL];exact ⟨⟨⟨r1.1,r1.2,by simp⟩,q3.ok,trivial⟩,i1⟩
  ·rw [aM,aM,eL,eL,ax,ax]
   have:ax ks=max (ai (ak ⟨f,ks⟩)) (max (ai (k1 ⟨f,ks⟩)) 0):=by rw [q1,ax,ax,ax];rfl
   omega
  ·rw [aA,aA,d4,d4,au,au]
   have:au ks=ao (ak ⟨f,ks⟩)+(ao (k1 ⟨f,ks⟩)+0):=by rw [q1,au,au,au];rfl
   omega
  ·rw [aI,cX,a8,a8,Bool.and_true,Bool.and_eq_true]
   exact ⟨(ew q3.2).2.2,i5⟩
  ·rw [List.all_cons,Bool.and_eq_true]
   refine ⟨?_,i6⟩
   unfold aQ
   rw [Bool.and_eq_true,Bool.and_eq_true]
   refine ⟨rfl,RFa.right ⟨q4.1,q4.2 rfl⟩, ?_⟩
   rw [j5 q4.1]
   exact fun c hc j hj=>by
    have:j<24:=hj.elim (Ej (q4.1.rc hc)) (Ei (q4.1.rc hc))
    omega
theorem uni_ok:OkT ej∧ao ej=1∧ai ej=1:=by
 refine ⟨?_, ?_, ?_⟩
 ·rw [OkT,aL,aU];exact ⟨⟨by unfold aK;omega,by unfold aK;omega,by decide,(fun c hc=>by cases hc),by simp,by simp,by simp⟩,trivial,trivial⟩
 ·rw [ao,au,aA]
 ·rw [ai,ax,aM];rfl
theorem aha {g a:Tm} (fg:Fm g) (hg:g.kind=16) (fa:Fm a) (hz:ao a+aA g.sys+1≤20000) (hd:ai a+1≤200):Fm (cR a (bN g)):=by
 obtain ⟨e1,e2,e3,e4,e5,e6⟩:=HV fg hg
 obtain ⟨_,hl,_⟩:=fg.gl hg
 have hdg:aM g.sys+1≤ai g:=by cases g;rw [ai];simp only [Tm.sys];omega
 have hdd:=fg.dep
 have ho:OkT (cR a (bN g)):=by
  rw [OkT,aL,aL]
  exact ⟨⟨by unfold aK;omega,by unfold aK;omega,by decide,(fun c hc=>by cases hc),by simp,by simp,by omega⟩,⟨fa.ok,trivial⟩,e1⟩
 refine ⟨ho,md ?_ ?_ ?_⟩
 ·rw [ai,ax,ax];omega
 ·rw [ao,au,au];omega
 ·rw [ay,e5,aY,aY]
  have e0:be 18 ((0:Nat):Int)=0:=rfl
  have e7:aR 18 ((0:Nat):Int)=0:=rfl
  rw [e0,e7,cO,Int.add_zero,(ew fa.2).2.2]
  have:ca (-1) 24 (cR a (bN g))=true:=by
   show (true&&((bN g).all (aQ 18 24)&&true))=true
   rw [e6];rfl
  rw [this];rfl
theorem ahb:Fm ej:=⟨uni_ok.1,by kernel_rfl⟩
theorem yF {g:Tm} (fg:Fm g) (hg:g.kind=16):Fm (cR ej (bN g)):=by
 obtain ⟨_,_,a,ha,fa⟩:=fg.gl hg
 have hz:=fg.siz
 have h2:ao g=1+(ao a+0)+aA g.sys:=by
  obtain ⟨kd,n,nm,r,ks,sys⟩:=g
  have ha:ks=[a]:=ha
  subst ha
  rw [ao,au,au];rfl
 have:=km a
 exact aha fg hg ahb (by rw [uni_ok.2.1];omega) (by rw [uni_ok.2.2];omega)
theorem ahp {a:Tm} {es:List (Br Tm)} {u:Tm} (h:aD 0 1 (cR a es)= .ok u): ∃a' es',u=cR a' es':=by
 obtain ⟨m,h1,h2⟩:=ae h
 have key: ∀ {vb db v d:Int} {x:Tm} {l:List (Br Tm)} {y:Tm},bh vb db v d (cR x l)= .ok y→ ∃x' l',y=cR x' l':=by
  intro vb db v d x l y h
  rw [bh] at h
  split at h
  ·cases h
  obtain ⟨r1,e1,h⟩:=ae h
  obtain ⟨ks1,e2,h⟩:=ae h
  obtain ⟨sys1,e3,h⟩:=ae h
  injection h with h;subst h
  have hr:r1=[]:=List.length_eq_zero_iff.1 (uN e1 rfl)
  have hk:=IW e2
  obtain ⟨a',ha⟩: ∃a',ks1=[a']:=by
   match ks1,hk with
   |[a'],_=>exact ⟨a',rfl⟩
  subst hr;subst ha
  refine ⟨a',sys1, ?_⟩
  rw [if_neg (by omega)]
 obtain ⟨x',l',rfl⟩:=key h1
 exact key h2
section
variable {g:Tm}
theorem afv (hk:F3 k) (fg:Fm g) (hg:g.kind=16) {x:Br Tm} (hx:x.kids=[ak x]) (c:Int) (ret:Br Tm×Int→Option S):
  xJ k x (bN g) c ret=ret (⟨x.face,[oC (mM c (aD 0 1 (cR ej (bN g)))).1 [ak x]]⟩,(mM c (aD 0 1 (cR ej (bN g)))).2):=by
 have fe:=yF fg hg
 have hgx:aq x.kids 0=some (ak x):=gL (n:=0) rfl (by rw [hx];rfl)
 have hup:oH 0 1 (cR ej (bN g))=aD 0 1 (cR ej (bN g)):=if_pos fe.2
 simp only [xJ,O9,ap hk.fu,aJ,dI,kr,nw,FJ,dV,mS,dU,ko]
 rw [EO hk (fun _=>fe.isIn hk) (by omega) (by omega),hup,hgx]
 rfl
theorem aa_ (hk:F3 k) (fg:Fm g) (hg:g.kind=16) (ret:List (Br Tm)×Int→Option S) {l:List (Br Tm)} (hx: ∀b∈l,b.kids=[ak b]∧Fm (ak b)∧RX true b.face) (hl:l.length≤20000):
  ∀ (r p acc:List (Br Tm)) (m:Nat) (c:Int),l=p++r→r.length<m→acc.length+r.length≤20000→
   ∃l',pY k ret (bN g) l m c (p.length:Int) acc=ret (acc++l',h9 (jv c (ez (bN g) r)))∧l'.length=r.length∧eD 50000 l'∧ ∀l'',jv c (ez (bN g) r)= .ok l''→l'=l'':=by
 intro r
 induction r with
 |nil=>
  intro p acc m c h hm ha
  obtain ⟨m,rfl,hm'⟩:=av hm
  refine ⟨[], ?_,rfl,nn _,fun l'' h=> ?_⟩
  ·simp only [pY,vZ,cD h,af,List.append_nil]
   by_cases hc:c=0
   ·subst hc;rfl
   ·rw [dh hc];rfl
  ·by_cases hc:c=0
   ·subst hc;rw [dq,ez] at h;injection h
   ·rw [dh hc] at h;cases h
 |cons x r ih=>
  intro p acc m c h hm ha
  obtain ⟨m,rfl,hm'⟩:=av hm
  obtain ⟨e1,e2,e3,e4⟩:=aV h (by omega)
  rw [List.length_cons] at ha
  simp only [pY,vZ,e1,al,e2,Option.bind_some,ap hk.fu,e3,afv hk fg hg (hx x (by rw [h];simp)).1]
  rw [bL (by simp;omega)]
  obtain ⟨_,x2,x3⟩:=hx x (by rw [h];simp)
  have hfn:FN (mM c (aD 0 1 (cR ej (bN g)))).1:=ef fun t h=>dA (by omega) (yF fg hg) h
  obtain ⟨l',h1,h2,hb,h3⟩:=ih (p++[x]) (acc++[⟨x.face,[oC (mM c (aD 0 1 (cR ej (bN g)))).1 [ak x]]⟩]) m (mM c (aD 0 1 (cR ej (bN g)))).2 e4 hm' (by rw [List.length_append,List.length_singleton];omega)
  refine ⟨⟨x.face,[oC (mM c (aD 0 1 (cR ej (bN g)))).1 [ak x]]⟩::l', ?_,by rw [List.length_cons,List.length_cons,h2],nj (kj x3) (E5 hfn x2).1 (E5 hfn x2).2 hb,fun l'' hl''=> ?_⟩
  ·refine h1.trans ?_
   rw [List.append_assoc,List.singleton_append]
   congr 2
   by_cases hc:c=0
   ·subst hc
    rw [cE,dq,ez]
    cases hh:aD 0 1 (cR ej (bN g)) with
    |error e=>
     have he:=bV hh
     rw [show (tE (.error e)).2=e from rfl,dh (show e≠0 by omega)];rfl
    |ok u=>
     rw [show (tE (.ok u)).2=0 from rfl,dq,aN]
     cases ez (bN g) r<;>rfl
   ·rw [cj hc,dh hc,dh hc]
  ·by_cases hc:c=0
   ·subst hc
    rw [dq,ez] at hl''
    obtain ⟨u,g1,hl''⟩:=ae hl''
    obtain ⟨l2,g2,hl''⟩:=ae hl''
    injection hl'' with hl''
    subst hl''
    rw [cE,g1] at h3
    rw [cE,g1,h3 l2 (by rw [show (tE (.ok u)).2=0 from rfl,dq];exact g2)];rfl
   ·rw [dh hc] at hl'';cases hl''
theorem afw (hk:F3 k) {x:Br Tm} (hx:x.kids=[ak x,k1 x]) (f0:Fm (ak x)) (f1:Fm (k1 x)) {b t:Tm} (fb:Fm b) (ft:Fm t) (c:Int) (ret:Br Tm×Int→Option S):
  xK k x b t c ret=ret (⟨x.face,[aw 6 [aw 9 [(mM c (aD 0 1 (k1 x))).1],(mM (mM c (aD 0 1 (k1 x))).2 (bY [ak x,b,a7 t.sys] (dp (ak x) b t.sys))).1]]⟩,(mM (mM c (aD 0 1 (k1 x))).2 (bY [ak x,b,a7 t.sys] (dp (ak x) b t.sys))).2):=by
 have g0:aq x.kids 0=some (ak x):=gL (n:=0) rfl (by rw [hx];rfl)
 have g1:aq x.kids 1=some (k1 x):=gL (n:=1) rfl (by rw [hx];rfl)
 have hup:oH 0 1 (k1 x)=aD 0 1 (k1 x):=if_pos f1.2
 simp only [xK,O_,ap hk.fu,aJ,dI,kr,B1,Pd,dU,ko,g0,g1,Option.bind_some]
 rw [EO hk (fun _=>f1.isIn hk) (by omega) (by omega),hup,NX hk (fun _=>⟨f0.isIn hk,fb.isIn hk,Au hk ft⟩) (fun e h=>u7 (fun e h=>tv h) h)]
 rfl
theorem aba (hk:F3 k) {b t:Tm} (fb:Fm b) (ft:Fm t) (ret:List (Br Tm)×Int→Option S) {l:List (Br Tm)} (hx: ∀b∈l,b.kids=[ak b,k1 b]∧Fm (ak b)∧Fm (k1 b)∧RX true b.face) (hl:l.length≤20000):
  ∀ (r p acc:List (Br Tm)) (m:Nat) (c:Int),l=p++r→r.length<m→acc.length+r.length≤20000→
   ∃l',pX k ret b t l m c (p.length:Int) acc=ret (acc++l',h9 (jv c (eO b t.sys r)))∧l'.length=r.length∧eD 500000 l'∧ ∀l'',jv c (eO b t.sys r)= .ok l''→l'=l'':=by
 intro r
 induction r with
 |nil=>
  intro p acc m c h hm ha
  obtain ⟨m,rfl,hm'⟩:=av hm
  refine ⟨[], ?_,rfl,nn _,fun l'' h=> ?_⟩
  ·simp only [pX,vY,cD h,af,List.append_nil]
   by_cases hc:c=0
   ·subst hc;rfl
   ·rw [dh hc];rfl
  ·by_cases hc:c=0
   ·subst hc;rw [dq,eO] at h;injection h
   ·rw [dh hc] at h;cases h
 |cons x r ih=>
  intro p acc m c h hm ha
  obtain ⟨m,rfl,hm'⟩:=av hm
  obtain ⟨e1,e2,e3,e4⟩:=aV h (by omega)
  rw [List.length_cons] at ha
  obtain ⟨x1,x2,x3,x4⟩:=hx x (by rw [h];simp)
  simp only [pX,vY,e1,al,e2,Option.bind_some,ap hk.fu,aJ,e3,afw hk x1 x2 x3 fb ft]
  rw [bL (by simp;omega)]
  have fA:FN (mM c (aD 0 1 (k1 x))).1:=ef fun t h=>dA (by omega) x3 h
  have fB: ∀c,FN (mM c (bY [ak x,b,a7 t.sys] (dp (ak x) b t.sys))).1:=fun c=>ef fun w h=>by
   obtain ⟨so,ff,hfe⟩:=kn h
   exact ⟨(tw hk x2 fb (ky (oF x2.ok fb.ok (Au hk ft).1 so).2.2) hfe).1.1,ff⟩
  have fB:=fB (mM c (aD 0 1 (k1 x))).2
  generalize hA:mM c (aD 0 1 (k1 x))=A at fA fB ⊢
  generalize hB:mM A.2 (bY [ak x,b,a7 t.sys] (dp (ak x) b t.sys))=B at fB ⊢
  have q9:=oE (kd:=9) (by omega) (n:=20000) (ks:=[A.1]) (fun x hx=>by simp at hx;subst hx;exact ⟨fA.sm.1,by have:=fA.sm.2;omega⟩) (by simp)
  have q6:=oE (kd:=6) (by omega) (n:=80001) (ks:=[aw 9 [A.1],B.1]) (fun x hx=>by
   simp at hx
   rcases hx with rfl|rfl
   ·refine ⟨q9.1, ?_⟩
    unfold aw;rw [ai,ax,ax,aM];have:=fA.sm.2;omega
   ·exact ⟨fB.sm.1.mono (by omega),by have:=fB.sm.2;omega⟩) (by simp)
  obtain ⟨l',h1,h2,hb,h3⟩:=ih (p++[x]) (acc++[⟨x.face,[aw 6 [aw 9 [A.1],B.1]]⟩]) m B.2 e4 hm' (by rw [List.length_append,List.length_singleton];omega)
  refine ⟨⟨x.face,[aw 6 [aw 9 [A.1],B.1]]⟩::l', ?_,by rw [List.length_cons,List.length_cons,h2],nj (kj x4) (q6.1.mono (by omega)) (by have:=q6.2;omega) hb,fun l'' hl''=> ?_⟩
  ·refine h1.trans ?_
   rw [List.append_assoc,List.singleton_append]
   congr 2
   subst hB;subst hA
   by_cases hc:c=0
   ·subst hc
    rw [cE,dq,eO]
    cases hh:aD 0 1 (k1 x) with
    |error e=>
     have he:=bV hh
     rw [show (tE (.error e)).2=e from rfl,cj (show e≠0 by omega),dh (show e≠0 by omega)];rfl
    |ok u=>
     rw [show (tE (.ok u)).2=0 from rfl,cE,aN]
     cases hw:bY [ak x,b,a7 t.sys] (dp (ak x) b t.sys) with
     |error e=>
      have he:=u7 (fun e h=>tv h) hw
      rw [show (tE (.error e)).2=e from rfl,dh he];rfl
     |ok w=>
      rw [show (tE (.ok w)).2=0 from rfl,dq,aN]
      cases eO b t.sys r<;>rfl
   ·rw [cj hc,cj hc,dh hc,dh hc]
  ·by_cases hc:c=0
   ·subst hc
    rw [dq,eO] at hl''
    obtain ⟨u,g1,hl''⟩:=ae hl''
    obtain ⟨w,g2,hl''⟩:=ae hl''
    obtain ⟨l2,g3,hl''⟩:=ae hl''
    injection hl'' with hl''
    subst hl''
    rw [cE,g1] at hA
    subst hA
    rw [show (tE (.ok u)).2=0 from rfl,cE,g2] at hB
    subst hB
    rw [h3 l2 (by rw [show (tE (.ok w)).2=0 from rfl,dq];exact g3)];rfl
   ·rw [dh hc] at hl'';cases hl''
end
end Go.Proofs.YtgajalidbabccaaGreatDoor
namespace Go.Proofs.YtgajalidbabccaaGreatDoor
open Go PI
set_option linter.unusedVariables false
set_option linter.unusedSimpArgs false
set_option maxRecDepth 20000
variable {S:Type} {k:Nat}
theorem aaZ (hk:F3 k) (ret:List (Br Tm)→Option S) {l:List (Br Tm)} (hx: ∀b∈l,b.kids=[ak b,k1 b]) (hl:l.length≤20000):
  ∀ (r p acc:List (Br Tm)) (m:Nat),l=p++r→r.length<m→acc.length+r.length≤20000→
   pZ k ret l m (p.length:Int) acc=ret (acc++r.map fun x=>⟨x.face,[k1 x]⟩):=by
 intro r
 induction r with
 |nil=>
  intro p acc m h hm ha
  obtain ⟨m,rfl,hm'⟩:=av hm
  simp only [pZ,v6,cD h,af,List.map_nil,List.append_nil]
 |cons x r ih=>
  intro p acc m h hm ha
  obtain ⟨m,rfl,hm'⟩:=av hm
  obtain ⟨e1,e2,e3,e4⟩:=aV h (by omega)
  rw [List.length_cons] at ha
  have g1:aq x.kids 1=some (k1 x):=gL (n:=1) rfl (by rw [hx x (by rw [h];simp)];rfl)
  simp only [pZ,v6,e1,al,e2,Option.bind_some,ap hk.fu,e3,B2,Pf,g1,aJ,dU,ko]
  rw [bL (by simp;omega),ih (p++[x]) _ m e4 hm' (by rw [List.length_append,List.length_singleton];omega),List.append_assoc];rfl
theorem abb (hk:F3 k) (ret:List (Br Tm)→Option S) {b t:Tm} {l:List (Br Tm)} (hx: ∀b∈l,b.kids=[ak b,k1 b]) (hl:l.length≤20000):
  ∀ (r p acc:List (Br Tm)) (m:Nat),l=p++r→r.length<m→acc.length+r.length≤20000→
   pW k ret t b l m (p.length:Int) acc=ret (acc++ic b t.sys r):=by
 intro r
 induction r with
 |nil=>
  intro p acc m h hm ha
  obtain ⟨m,rfl,hm'⟩:=av hm
  simp only [pW,vX,cD h,af,ic,List.map_nil,List.append_nil]
 |cons x r ih=>
  intro p acc m h hm ha
  obtain ⟨m,rfl,hm'⟩:=av hm
  obtain ⟨e1,e2,e3,e4⟩:=aV h (by omega)
  rw [List.length_cons] at ha
  have g0:aq x.kids 0=some (ak x):=gL (n:=0) rfl (by rw [hx x (by rw [h];simp)];rfl)
  simp only [pW,vX,e1,al,e2,Option.bind_some,ap hk.fu,e3,BY,Pa,g0,aJ,dU,ko,dV,mS]
  rw [bL (by simp;omega),ih (p++[x]) _ m e4 hm' (by rw [List.length_append,List.length_singleton];omega),List.append_assoc];rfl
theorem agp {t x b:Tm} (ft:Fm t) (fx:Fm x) (fb:Fm b):Sm 60001 (.mk 15 0 ByteArray.empty [] [x,b] t.sys)∧ai (.mk 15 0 ByteArray.empty [] [x,b] t.sys)≤299:=by
 obtain ⟨o1,o2,o3,o4,o5,o6,o7⟩:=ft.ok.no
 have hs:aU t.sys:=by have:=ft.ok;cases t;rw [OkT] at this;exact this.2.2
 have hd:aM t.sys+1≤ai t:=by cases t;rw [ai];simp only [Tm.sys];omega
 have hz:aA t.sys+1≤ao t:=by cases t;rw [ao];simp only [Tm.sys];omega
 have:=ft.siz;have:=ft.dep;have:=fx.siz;have:=fx.dep;have:=fb.siz;have:=fb.dep
 refine ⟨(mP (kd:=15) (by omega) (r:=[]) ⟨(fun c hc=>by cases hc),by simp⟩ (ks:=[x,b]) (sys:=t.sys) (n:=40000) (m:=20000) (fun y hy=>by
  simp at hy
  rcases hy with rfl|rfl
  ·exact ⟨fx.ok,by omega⟩
  ·exact ⟨fb.ok,by omega⟩) (by simp) (by rw [au,au,au];omega) hs o7 (by omega) (by omega)), ?_⟩
 rw [ai,ax,ax,ax];omega
theorem Zm {t b:Tm} (ft:Fm t) (fb:Fm b): ∀ {l:List (Br Tm)},(∀b∈l,Fm (ak b)∧RX true b.face)→eD 60001 (ic b t.sys l):=by
 intro l
 induction l with
 |nil=>intro _;exact nn _
 |cons x l ih=>
  intro h
  obtain ⟨h1,h2⟩:=h x (by simp)
  have q:=agp ft h1 fb
  exact nj (kj h2) q.1 q.2 (ih fun x hx=>h x (by simp [hx]))
theorem Kd (hk:F3 k) {t g b a:Tm} {l1 l2:List (Br Tm)} (ft:Fm t) (fg:Fm g) (hg:g.kind=16) (ha:g.kids.getD 0 ar=a) (fa:Fm a) (fb:Fm b) (h1:eD 50000 l1) (n1:l1.length≤20000) (h2:eD 500000 l2) (n2:l2.length≤20000):In k (qE g b t.sys l1 l2):=by
 obtain ⟨hx,hl,_⟩:=fg.gl hg
 obtain ⟨e1,e2,e3,e4,_,_⟩:=HV fg hg
 have hdg:aM g.sys+1≤ai g:=by cases g;rw [ai];simp only [Tm.sys];omega
 have hzg:aA g.sys+1≤ao g:=by cases g;rw [ao];simp only [Tm.sys];omega
 have:=fg.dep;have:=fg.siz
 have bd:=fb.dep;have bz:=fb.siz;have ad:=fa.dep;have az:=fa.siz
 have u1:Sm 40001 (cR b (bN g))∧ai (cR b (bN g))≤202:=by
  refine ⟨mP (kd:=18) (by omega) (r:=[]) ⟨(fun c hc=>by cases hc),by simp⟩ (ks:=[b]) (sys:=bN g) (n:=20000) (m:=20000) (fun y hy=>by simp at hy;subst hy;exact ⟨fb.ok,by omega⟩) (by simp) (by rw [au,au];omega) e1 (by omega) (by omega) (by omega), ?_⟩
  rw [ai,ax,ax];omega
 obtain ⟨b1,b2⟩:=wR (n:=500000) (BA (fun x hx=>by obtain ⟨t,q1,q2,q3⟩:=h1 x hx;exact ⟨t,q1,q2.mono (by omega),q3⟩) h2)
 have hz:aA (l1++l2)≤40000*500000:=Nat.le_trans b1.siz (Nat.mul_le_mul_right _ (by rw [List.length_append];omega))
 have h15:=mP (kd:=15) (by omega) (r:=[]) ⟨(fun c hc=>by cases hc),by simp⟩ (ks:=[a,cR b (bN g)]) (sys:=l1++l2) (n:=60001) (m:=40000*500000) (fun y hy=>by
  simp at hy
  rcases hy with rfl|rfl
  ·exact ⟨fa.ok,by omega⟩
  ·exact ⟨u1.1.ok,by omega⟩) (by simp) (by rw [au,au,au];have:=u1.1.siz;omega) b1.ok (by rw [List.length_append];omega) b2 hz
 obtain ⟨c1,c2⟩:=wR (Zm ft fb (l:=g.sys) fun x hx'=>⟨(hx x hx').2.1,(hx x hx').2.2.2⟩)
 have hlen:(ic b t.sys g.sys).length=g.sys.length:=by unfold ic;rw [List.length_map]
 have hz3:aA (ic b t.sys g.sys)≤20000*60001:=Nat.le_trans c1.siz (Nat.mul_le_mul_right _ (by omega))
 unfold qE
 rw [ha]
 have hd15:ai (.mk 15 0 ByteArray.empty [] [a,cR b (bN g)] (l1++l2))≤300:=h15.dep
 refine ⟨?_,hk.fd ?_, ?_⟩
 ·rw [OkT,aL,aL]
  exact ⟨⟨by unfold aK;omega,by unfold aK;omega,by decide,(fun c hc=>by cases hc),by simp,by simp,by omega⟩,⟨h15.ok,trivial⟩,c1.ok⟩
 ·rw [ai,ax,ax];omega
 ·rw [ao,au,au];have:=h15.siz;omega
theorem afu (hk:F3 k) {t:Tm} (ht:In k t) (ret:Tm×Bool×Int→Option S):xH k t ret=ret (DA t):=by
 have hfu:4294968296≤k:=hk
 simp only [xH,O8,ap hk.fu,aJ,fX ht.1 ht.2.1 ht.dep]
 unfold DA
 by_cases h0:bQ t=0
 case neg=>rw [eH h0,Bool.not_false,al,if_pos h0];rfl
 rw [h0,show (!((0:Int)==0))=false from rfl,af,if_neg (by simp)]
 have ft:Fm t:=⟨ht.1,h0⟩
 by_cases h15:t.kind=15
 case neg=>rw [beq_false_of_ne h15,Bool.not_false,al,if_neg (fun h=>h15 h.1)];rfl
 rw [h15,show (!((15:Int)==15))=false from rfl,af]
 obtain ⟨g,b,hkd⟩:=kw (gN ft h15 (n:=2) rfl)
 obtain ⟨g0,g1⟩:=pD hkd
 obtain ⟨d0,d1⟩:=eX hkd
 have fg:Fm g:=ft.kid (by rw [hkd];simp)
 have fb:Fm b:=ft.kid (by rw [hkd];simp)
 obtain ⟨sy,syl⟩:=ft.sy h15
 rw [g0,Option.bind_some,d0]
 by_cases h16:g.kind=16
 case neg=>rw [beq_false_of_ne h16,Bool.not_false,al,if_neg (fun h=>h16 h.2)];rfl
 rw [h16,show (!((16:Int)==16))=false from rfl,af,oA t ht.1 _ ht.2.1,g0,Option.bind_some,g1,Option.bind_some,Option.bind_some,if_pos ⟨rfl,rfl⟩]
 obtain ⟨hx,hl,a,hak,fa⟩:=fg.gl h16
 have ga:aq g.kids 0=some a:=gL (n:=0) rfl (by rw [hak];rfl)
 have had:g.kids.getD 0 ar=a:=by rw [hak];rfl
 have hes: ∀q:List (Br Tm)→Option S,xL k g q=q (bN g):=fun q=>by
  simp only [xL,Pe,ap hk.fu,B0,FI]
  exact aaZ hk q (fun b hb=>(hx b hb).1) hl g.sys [] [] k rfl (by omega) (by simpa using hl)
 rw [hes]
 obtain ⟨l1,i1,i2,i3,i4⟩:=aa_ hk fg h16 (fun r8=>BZ k g.sys b t r8.2 fun r9=>Option.bind (aX 1099511627776 r8.1.length r9.1.length) fun x10=>Option.bind (aq g.kids 0) fun x11=>nw k b (bN g) fun r12=>dV k 15 (r8.1++r9.1) [x11,(Tm.mk r12.1 r12.2.1 r12.2.2.1 [] r12.2.2.2.1 r12.2.2.2.2)] fun r13=>sW k g.sys t b fun r14=>dV k 17 r14 [(Tm.mk r13.1 r13.2.1 r13.2.2.1 [] r13.2.2.2.1 r13.2.2.2.2)] fun r15=>f8 k (Tm.mk r15.1 r15.2.1 r15.2.2.1 [] r15.2.2.2.1 r15.2.2.2.2) r9.2 fun r16=>ret (r16.1,r16.2.1,r16.2.2.1)) (l:=t.sys) sy syl t.sys [] [] k 0 rfl (by omega) (by simpa using syl)
 refine Eq.trans (b:=_) ?_ (i1.trans ?_)
 ·rfl
 rw [List.nil_append,dq]
 rw [dq] at i4
 obtain ⟨l2,j1,j2,j3,j4⟩:=aba hk fb ft (fun r9=>Option.bind (aX 1099511627776 l1.length r9.1.length) fun x10=>Option.bind (aq g.kids 0) fun x11=>nw k b (bN g) fun r12=>dV k 15 (l1++r9.1) [x11,(Tm.mk r12.1 r12.2.1 r12.2.2.1 [] r12.2.2.2.1 r12.2.2.2.2)] fun r13=>sW k g.sys t b fun r14=>dV k 17 r14 [(Tm.mk r13.1 r13.2.1 r13.2.2.1 [] r13.2.2.2.1 r13.2.2.2.2)] fun r15=>f8 k (Tm.mk r15.1 r15.2.1 r15.2.2.1 [] r15.2.2.2.1 r15.2.2.2.2) r9.2 fun r16=>ret (r16.1,r16.2.1,r16.2.2.1)) (l:=g.sys) hx hl g.sys [] [] k (h9 (ez (bN g) t.sys)) rfl (by omega) (by simpa using hl)
 refine Eq.trans (b:=_) ?_ (j1.trans ?_)
 ·rfl
 rw [List.nil_append]
 dsimp only
 rw [bL (by omega),ga,Option.bind_some]
 simp only [nw,FJ,dV,mS,ap hk.fu,aJ,sW,FH]
 have hin:=Kd hk ft fg h16 had fa fb i3 (by omega) j3 (by omega)
 have h3:=fun q:List (Br Tm)→Option S=>abb hk q (b:=b) (t:=t) (fun b hb=>(hx b hb).1) hl g.sys [] [] k rfl (by omega) (by simpa using hl)
 refine (h3 _).trans ?_
 rw [List.nil_append]
 rw [show (Tm.mk 17 0 ByteArray.empty [] [Tm.mk 15 0 ByteArray.empty [] [a,Tm.mk 18 0 ByteArray.empty [] [b] (bN g)] (l1++l2)] (ic b t.sys g.sys))=qE g b t.sys l1 l2 from by unfold qE;rw [had],uV hk hin]
 unfold oa
 rw [d0,d1]
 cases q1:ez (bN g) t.sys with
 |error e=>
  have he:=Zj q1
  rw [show h9 (.error e:Except Int (List (Br Tm)))=e from rfl,dh (show e≠0 by omega),d7]
  exact BL (show e≠0 by omega) ret
 |ok m1=>
  have:=i4 m1 q1
  subst this
  rw [show h9 (.ok l1:Except Int (List (Br Tm)))=0 from rfl,dq,aN]
  rw [q1,show h9 (.ok l1:Except Int (List (Br Tm)))=0 from rfl,dq] at j4
  cases q2:eO b t.sys g.sys with
  |error e=>
   have he:=Zl q2
   rw [show h9 (.error e:Except Int (List (Br Tm)))=e from rfl,d7]
   exact BL (show e≠0 by omega) ret
  |ok m2=>
   have:=j4 m2 q2
   subst this
   rw [show h9 (.ok l2:Except Int (List (Br Tm)))=0 from rfl,aN]
   exact He ret
end Go.Proofs.YtgajalidbabccaaGreatDoor
namespace Go.Proofs.YtgajalidbabccaaGreatDoor
open Go PI
set_option linter.unusedVariables false
set_option linter.unusedSimpArgs false
set_option maxRecDepth 20000
variable {S:Type} {k:Nat}
def cQ {α β:Type} (F:α→Except Int β):List α→Except Int (List β)
 |[]=> .ok []
 |x::l=>bE (F x) fun b=>bE (cQ F l) fun l'=> .ok (b::l')
theorem Dx {α β:Type} {F:α→Except Int β}: ∀ {l:List α} {e:Int},(∀x∈l,∀e,F x= .error e→0<e∧e≤1000)→cQ F l= .error e→0<e∧e≤1000:=by
 intro l
 induction l with
 |nil=>intro e _ h;cases h
 |cons x l ih=>
  intro e hF h
  rw [cQ] at h
  rcases aW h with h|⟨_,_,h⟩
  ·exact hF x (by simp) e h
  rcases aW h with h|⟨_,_,h⟩
  ·exact ih (fun x hx=>hF x (by simp [hx])) h
  ·cases h
theorem Cr {l:List (Br Tm)} {L:Nat→Int→Int→List (Br Tm)→Option S} {ret:List (Br Tm)×Int→Option S} {g:Int→Br Tm→Br Tm×Int} {F:Br Tm→Except Int (Br Tm)} {Q:Br Tm→Prop} (hl:l.length≤20000)
  (hend: ∀ (m:Nat) (c:Int) (acc:List (Br Tm)),acc.length≤20000→L (m+1) c (l.length:Int) acc=ret (acc,c))
  (hstep: ∀ (m:Nat) (c:Int) (x:Br Tm) (p r acc:List (Br Tm)),l=p++x::r→acc.length<20000→L (m+1) c (p.length:Int) acc=L m (g c x).2 (((p++[x]).length:Nat):Int) (acc++[(g c x).1]))
  (h0: ∀x∈l,∀b,F x= .ok b→g 0 x=(b,0)) (h1: ∀x∈l,∀e,F x= .error e→e≠0∧(g 0 x).2=e) (h2: ∀x∈l,∀c,c≠0→(g c x).2=c) (hq: ∀x∈l,∀c,Q (g c x).1):
  ∀ (r p acc:List (Br Tm)) (m:Nat) (c:Int),l=p++r→r.length<m→acc.length+r.length≤20000→
   ∃l',L m c (p.length:Int) acc=ret (acc++l',h9 (jv c (cQ F r)))∧l'.length=r.length∧(∀y∈l',Q y)∧ ∀l'',jv c (cQ F r)= .ok l''→l'=l'':=by
 intro r
 induction r with
 |nil=>
  intro p acc m c h hm ha
  obtain ⟨m,rfl,hm'⟩:=av hm
  refine ⟨[], ?_,rfl,(fun y hy=>by cases hy),fun l'' h=> ?_⟩
  ·rw [List.append_nil] at h
   subst h
   rw [hend m c acc (by simpa using ha),List.append_nil]
   by_cases hc:c=0
   ·subst hc;rfl
   ·rw [dh hc];rfl
  ·by_cases hc:c=0
   ·subst hc;rw [dq,cQ] at h;injection h
   ·rw [dh hc] at h;cases h
 |cons x r ih=>
  intro p acc m c h hm ha
  obtain ⟨m,rfl,hm'⟩:=av hm
  rw [List.length_cons] at ha
  have hx:x∈l:=by rw [h];simp
  rw [hstep m c x p r acc h (by omega)]
  obtain ⟨l',i1,i2,i3,i4⟩:=ih (p++[x]) (acc++[(g c x).1]) m (g c x).2 (by rw [h];simp) hm' (by rw [List.length_append,List.length_singleton];omega)
  refine ⟨(g c x).1::l', ?_,by rw [List.length_cons,List.length_cons,i2],fun y hy=> ?_,fun l'' hl''=> ?_⟩
  ·rw [i1,List.append_assoc,List.singleton_append]
   congr 2
   by_cases hc:c=0
   ·subst hc
    rw [dq,cQ]
    cases hF:F x with
    |error e=>
     obtain ⟨q1,q2⟩:=h1 x hx e hF
     rw [q2,dh q1];rfl
    |ok b=>
     rw [h0 x hx b hF,dq,aN]
     cases cQ F r<;>rfl
   ·rw [h2 x hx c hc,dh hc,dh hc]
  ·rcases List.mem_cons.1 hy with rfl|hy
   ·exact hq x hx c
   ·exact i3 y hy
  ·by_cases hc:c=0
   ·subst hc
    rw [dq,cQ] at hl''
    obtain ⟨b,g1,hl''⟩:=ae hl''
    obtain ⟨l2,g2,hl''⟩:=ae hl''
    injection hl'' with hl''
    subst hl''
    have hg:=h0 x hx b g1
    rw [hg] at i4 ⊢
    rw [i4 l2 (by rw [dq];exact g2)]
   ·rw [dh hc] at hl'';cases hl''
def lu (x:Br Tm):Except Int (Br Tm):=bE (aD 1 0 (ak x)) fun u=> .ok ⟨x.face,[aw 6 [u,vN 0]]⟩
def lv (b a:Tm) (sys:List (Br Tm)):Except Int Tm:=bE (aD 1 0 a) fun a'=>bE (cQ lu sys) fun l=> .ok (aw 5 [.mk 15 0 ByteArray.empty [] [b,aw 6 [a',vN 0]] l])
theorem adv {b a:Tm} {sys:List (Br Tm)} {e:Int} (h:lv b a sys= .error e):0<e∧e≤1000:=by
 unfold lv at h
 rcases aW h with h|⟨_,_,h⟩
 ·exact bV h
 rcases aW h with h|⟨_,_,h⟩
 ·refine Dx (fun x _ e h=> ?_) h
  unfold lu at h
  rcases aW h with h|⟨_,_,h⟩
  ·exact bV h
  ·cases h
 ·cases h
section
variable {x1 x2:Int} {x3:ByteArray} {x4:List Cl} {x5:List Tm} {x6 sys:List (Br Tm)}
theorem uT (hk:F3 k) {t:Tm} (ft:Fm t) {a b c:Int} (ha:0≤a∧a<1000) (hb:0≤b∧b<1000) (ret:Tm×Int→Option S):eu k t a b c ret=ret (mM c (aD a b t)):=by
 rw [EO hk (fun _=>ft.isIn hk) ha hb,show oH a b t=aD a b t from if_pos ft.2]
theorem afy (hk:F3 k) {u:Tm} (fu:Fm u) (c:Int) (ret:List Tm×Int→Option S):xN k u c x1 x2 x3 x4 x5 x6 sys ret=ret ([aw 6 [(mM c (aD 1 0 u)).1,vN 0]],(mM c (aD 1 0 u)).2):=by
 simp only [xN,Pi,ap hk.fu,aJ,uT hk fu (show (0:Int)≤1∧(1:Int)<1000 by omega) (show (0:Int)≤0∧(0:Int)<1000 by omega),s8,FW,dI,kr]
 rfl
end
theorem vn0_sm:Sm 1 (vN 0)∧ai (vN 0)=1:=by
 unfold vN
 refine ⟨⟨?_, ?_, ?_⟩, ?_⟩
 ·rw [OkT,aL,aU];exact ⟨⟨by unfold aK;omega,by unfold aK;omega,by decide,(fun c hc=>by cases hc),by simp,by simp,by simp⟩,trivial,trivial⟩
 ·rw [ao,au,aA];omega
 ·rw [ai,ax,aM];omega
 ·rw [ai,ax,aM];rfl
theorem E4 {a:Tm} (ha:FN a):Sm 80001 (aw 6 [a,vN 0])∧ai (aw 6 [a,vN 0])≤201:=by
 have h:=oE (kd:=6) (by omega) (n:=20000) (ks:=[a,vN 0]) (fun x hx=>by
  simp at hx
  rcases hx with rfl|rfl
  ·exact ⟨ha.sm.1,by have:=ha.sm.2;omega⟩
  ·exact ⟨vn0_sm.1.mono (by omega),by rw [vn0_sm.2];omega⟩) (by simp)
 refine ⟨h.1, ?_⟩
 unfold aw;rw [ai,ax,ax,ax,aM,vn0_sm.2];have:=ha.sm.2;omega
theorem E3 {x y:Tm} {l:List (Br Tm)} {n m:Nat} (hx:Sm n x) (hy:Sm n y) (dx:ai x≤290) (dy:ai y≤290) (hn:n≤1000000) (hb:eD m l) (hm:m≤1000000) (hl:l.length≤40000):Sm 50000000000 (.mk 15 0 ByteArray.empty [] [x,y] l):=by
 obtain ⟨b1,b2⟩:=wR hb
 have hz:aA l≤40000*1000000:=Nat.le_trans b1.siz (Nat.mul_le_mul hl hm)
 exact (mP (kd:=15) (by omega) (r:=[]) ⟨(fun c hc=>by cases hc),by simp⟩ (ks:=[x,y]) (sys:=l) (n:=2000000) (m:=40000*1000000) (fun z hz=>by
  simp at hz
  rcases hz with rfl|rfl
  ·exact ⟨hx.ok,by omega⟩
  ·exact ⟨hy.ok,by omega⟩) (by simp) (by rw [au,au,au];have:=hx.siz;have:=hy.siz;omega) b1.ok (by omega) b2 hz).mono (by omega)
theorem Im (hk:F3 k) {kd:Int} (hkd:0≤kd∧kd≤28) {x:Tm} (hx:Sm 50000000000 x):In k (aw kd [x]):=by
 have:=hx.dep;have:=hx.siz
 unfold aw
 refine ⟨?_,hk.fd ?_, ?_⟩
 ·rw [OkT,aL,aL,aU]
  exact ⟨⟨by unfold aK;omega,by unfold aK;omega,by decide,(fun c hc=>by cases hc),by simp,by simp,by simp⟩,⟨hx.ok,trivial⟩,trivial⟩
 ·rw [ai,ax,ax,aM];omega
 ·rw [ao,au,au,aA];omega
theorem Ar {X:Except Int Tm} {y:Tm} {c:Int} (h0: ∀t,X= .ok t→y=t∧c=0) (h1: ∀e,X= .error e→e≠0∧c=e) (g:Tm×Bool×Int→Option S):g ((dM c y).1,(dM c y).2==0,(dM c y).2)=g (lE X):=by
 cases hX:X with
 |error e=>
  obtain ⟨q1,q2⟩:=h1 e hX
  subst q2
  exact BL q1 g
 |ok t=>
  obtain ⟨q1,q2⟩:=h0 t hX
  subst q1;subst q2
  exact He g
section
variable {x1 x2:Int} {x3:ByteArray} {x4:List Cl} {x5:List Tm} {x6 sys:List (Br Tm)}
def GF (n:Nat) (x:Br Tm):Prop:= ∃t,x.kids=[t]∧Sm n t∧ai t≤299∧aE x.face∧x.face.length<1073741824
theorem NR (hk:F3 k) {t p b:Tm} (hkd:t.kids=[p,b]) (fb:Fm b) (fa:Fm (Tm.mk x1 x2 x3 x4 x5 x6)) (sy: ∀b∈sys,b.kids=[ak b]∧Fm (ak b)∧RX true b.face) (syl:sys.length≤20000) (ret:Int×Int×ByteArray×List Tm×Int→Option S):
  ∃y c,xO k t 0 x1 x2 x3 x4 x5 x6 sys ret=ret (5,0,ByteArray.empty,[y],c)∧In k (aw 5 [y])∧(∀z,lv b (Tm.mk x1 x2 x3 x4 x5 x6) sys= .ok z→aw 5 [y]=z∧c=0)∧ ∀e,lv b (Tm.mk x1 x2 x3 x4 x5 x6) sys= .error e→e≠0∧c=e:=by
 have hfu:4294968296≤k:=hk
 obtain ⟨g0,g1⟩:=pD hkd
 have key:=fun RET=>Cr (S:=S) (l:=sys) (L:=fun m c i acc=>p8 k RET x1 x2 x3 x4 x5 x6 sys m c i acc) (ret:=RET) (g:=fun c x=>(⟨x.face,[aw 6 [(mM c (aD 1 0 (ak x))).1,vN 0]]⟩,(mM c (aD 1 0 (ak x))).2)) (F:=lu) (Q:=GF 80001) syl
  (fun m c acc _=>by
   have:=cD (l:=sys) (p:=sys) (by simp)
   simp only [p8,wa,this,af])
  (fun m c x p r acc h ha=>by
   obtain ⟨e1,e2,e3,_⟩:=aV h (by omega)
   obtain ⟨q1,q2,_⟩:=sy x (by rw [h];simp)
   have hg:aq x.kids 0=some (ak x):=gL (n:=0) rfl (by rw [q1];rfl)
   simp only [p8,wa,e1,al,e2,Option.bind_some,hg,ap hk.fu,aJ,afy hk q2,dU,ko,e3]
   rw [bL (by simp;omega)])
  (fun x hx b h=>by
   unfold lu at h
   obtain ⟨u,h1,h⟩:=ae h
   injection h with h;subst h
   rw [cE,h1];rfl)
  (fun x hx e h=>by
   unfold lu at h
   rcases aW h with h|⟨_,_,h⟩
   ·have:=bV h;rw [cE,h];exact ⟨by omega,rfl⟩
   ·cases h)
  (fun x hx c hc=>by rw [cj hc])
  (fun x hx c=>by
   obtain ⟨q1,q2,q3⟩:=sy x hx
   have:=E4 (ef (c:=c) (x:=aD 1 0 (ak x)) fun t h=>dA (by omega) q2 h)
   exact ⟨_,rfl,this.1,by omega,kj q3⟩)
  sys [] [] k (mM 0 (aD 1 0 (Tm.mk x1 x2 x3 x4 x5 x6))).2 rfl (by omega) (by simpa using syl)
 obtain ⟨l',h1,h2,h3,h4⟩:=key fun r4=>ret (5,0,ByteArray.empty,[.mk 15 0 ByteArray.empty [] [b,aw 6 [(mM 0 (aD 1 0 (Tm.mk x1 x2 x3 x4 x5 x6))).1,vN 0]] r4.1],r4.2)
 have fA:FN (mM 0 (aD 1 0 (Tm.mk x1 x2 x3 x4 x5 x6))).1:=ef fun t h=>dA (by omega) fa h
 refine ⟨_,h9 (jv (mM 0 (aD 1 0 (Tm.mk x1 x2 x3 x4 x5 x6))).2 (cQ lu sys)), ?_,Im hk (by omega) (E3 (n:=80001) (fb.sm.mono (by omega)) (E4 fA).1 (by have:=fb.dep;omega) (by have:=(E4 fA).2;omega) (by omega) h3 (by omega) (by rw [h2];omega)), ?_⟩
 ·simp only [xO,Pj,ap hk.fu,aJ,uT hk fa (show (0:Int)≤1∧(1:Int)<1000 by omega) (show (0:Int)≤0∧(0:Int)<1000 by omega),s8,FW,dI,kr,pc,FL,g1,Option.bind_some,dV,mS]
  exact h1
 ·unfold lv
  rw [cE] at h4 ⊢
  cases ha:aD 1 0 (Tm.mk x1 x2 x3 x4 x5 x6) with
  |error e=>
   have he:=bV ha
   rw [show (tE (.error e)).2=e from rfl,dh (show e≠0 by omega)]
   exact ⟨fun z h=>(by cases h),fun e' h=>by injection h with h;subst h;exact ⟨by omega,rfl⟩⟩
  |ok A=>
   rw [ha,show (tE (.ok A)).2=0 from rfl,dq] at h4
   rw [show (tE (.ok A)).2=0 from rfl,dq,aN]
   cases hm:cQ lu sys with
   |error e=>
    refine ⟨fun z h=>(by cases h),fun e' h=> ?_⟩
    injection h with h;subst h
    have:=adv (b:=b) (a:=Tm.mk x1 x2 x3 x4 x5 x6) (sys:=sys) (e:=e) (by unfold lv;rw [ha,hm];rfl)
    exact ⟨by omega,rfl⟩
   |ok l=>
    have:=h4 l hm
    subst this
    exact ⟨fun z h=>by injection h with h;subst h;exact ⟨rfl,rfl⟩,fun e h=>by cases h⟩
end
end Go.Proofs.YtgajalidbabccaaGreatDoor
namespace Go.Proofs.YtgajalidbabccaaGreatDoor
open Go PI
set_option linter.unusedVariables false
set_option linter.unusedSimpArgs false
set_option maxRecDepth 20000
variable {S:Type} {k:Nat}
def parts (kd:Int) (sys:List (Br Tm)):List (Br Tm):=sys.map fun x=>⟨x.face,[aw kd [ak x]]⟩
theorem uZ {kd:Int} (hkd:0≤kd∧kd≤28) {a:Tm} (fa:FN a):Sm 80001 (aw kd [a])∧ai (aw kd [a])≤201:=by
 have h:=oE (kd:=kd) hkd (n:=20000) (ks:=[a]) (fun x hx=>by simp at hx;subst hx;exact ⟨fa.sm.1,by have:=fa.sm.2;omega⟩) (by simp)
 refine ⟨h.1, ?_⟩
 unfold aw;rw [ai,ax,ax,aM];have:=fa.sm.2;omega
theorem KA {kd:Int} (hkd:0≤kd∧kd≤28) {sys:List (Br Tm)} (sy: ∀b∈sys,b.kids=[ak b]∧Fm (ak b)∧RX true b.face):eD 80001 (parts kd sys):=fun y hy=>by
 obtain ⟨x,hx,rfl⟩:=List.mem_map.1 hy
 obtain ⟨_,q2,q3⟩:=sy x hx
 have:=uZ hkd (.inl q2)
 exact ⟨_,rfl,this.1,by omega,kj q3⟩
theorem zl (hk:F3 k) {kd:Int} (hkd:0≤kd∧kd≤28) {sys:List (Br Tm)} (sy: ∀b∈sys,b.kids=[ak b]∧Fm (ak b)∧RX true b.face) (syl:sys.length≤20000):In k (a7 (parts kd sys)):=by
 obtain ⟨b1,b2⟩:=wR (KA hkd sy)
 exact ahB hk (by omega) b1 (by unfold parts;rw [List.length_map];exact syl) b2
def rl (k0 k1 a:Tm) (sys:List (Br Tm)):Except Int Tm:=
 bE (bY [k0,aw 9 [a],a7 (parts 9 sys)] (dp k0 (aw 9 [a]) (parts 9 sys))) fun f=>bE (aD 0 1 k1) fun b=>bE (gk 0 b f) fun line=>
 bE (bY [line,aw 10 [a],a7 (parts 10 sys)] (eb line (aw 10 [a]) (parts 10 sys))) fun y=> .ok (aw 8 [.mk 15 0 ByteArray.empty [] [k0,aw 9 [a]] (parts 9 sys),y])
section
variable {x1 x2:Int} {x3:ByteArray} {x4:List Cl} {x5:List Tm} {x6 sys:List (Br Tm)}
theorem abq (hk:F3 k) (ret:List (Br Tm)→Option S) {c kd:Int} (sy: ∀b∈sys,b.kids=[ak b]) (syl:sys.length≤20000):
  ∀ (r p acc:List (Br Tm)) (m:Nat),sys=p++r→r.length<m→acc.length+r.length≤20000→
   qb k ret c x1 x2 x3 x4 x5 x6 sys kd m (p.length:Int) acc=ret (acc++parts kd r):=by
 intro r
 induction r with
 |nil=>
  intro p acc m h hm ha
  obtain ⟨m,rfl,hm'⟩:=av hm
  simp only [qb,we,cD h,af,parts,List.map_nil,List.append_nil]
 |cons x r ih=>
  intro p acc m h hm ha
  obtain ⟨m,rfl,hm'⟩:=av hm
  obtain ⟨e1,e2,e3,e4⟩:=aV h (by omega)
  rw [List.length_cons] at ha
  have g0:aq x.kids 0=some (ak x):=gL (n:=0) rfl (by rw [sy x (by rw [h];simp)];rfl)
  simp only [qb,we,e1,al,e2,Option.bind_some,ap hk.fu,e3,B3,Pk,g0,aJ,dU,ko,dI,kr]
  rw [bL (by simp;omega),ih (p++[x]) _ m e4 hm' (by rw [List.length_append,List.length_singleton];omega),List.append_assoc];rfl
theorem afz (hk:F3 k) {c kd:Int} (sy: ∀b∈sys,b.kids=[ak b]) (syl:sys.length≤20000) (ret:Int×Int×ByteArray×List Tm×List (Br Tm)→Option S):
  sX k kd c x1 x2 x3 x4 x5 x6 sys ret=ret (kd,0,ByteArray.empty,[Tm.mk x1 x2 x3 x4 x5 x6],parts kd sys):=by
 have hfu:4294968296≤k:=hk
 simp only [sX,Pl,ap hk.fu,dI,kr,pe,FO]
 refine (abq hk _ sy syl sys [] [] k rfl (by omega) (by simpa using syl)).trans ?_
 rw [List.nil_append]
theorem YK (hk:F3 k) {l a:Tm} {s:List (Br Tm)} (hl:In k l) (ha:In k a) (hs:In k (a7 s)) (c:Int):FN (mM c (bY [l,a,a7 s] (eb l a s))).1:=ef fun t h=>by
 obtain ⟨so,ff,hx⟩:=kn h
 obtain ⟨f1,f2,f3⟩:=oF hl.1 ha.1 hs.1 so
 exact ⟨(G8 hk f1 f2 (ky f3) hx).1.1,ff⟩
theorem H2 (hk:F3 k) {l a:Tm} {s:List (Br Tm)} (hl:In k l) (ha:In k a) (hs:In k (a7 s)) {t:Tm} (h:bY [l,a,a7 s] (dp l a s)= .ok t):Fm t:=by
 obtain ⟨so,ff,hx⟩:=kn h
 obtain ⟨f1,f2,f3⟩:=oF hl.1 ha.1 hs.1 so
 exact ⟨(tw hk f1 f2 (ky f3) hx).1.1,ff⟩
theorem Zq (hk:F3 k) {kd:Int} (hkd:0≤kd∧kd≤28) {x y:Tm} (hx:Sm 50000000000 x) (hy:Sm 50000000000 y):In k (aw kd [x,y]):=by
 have:=hx.dep;have:=hx.siz;have:=hy.dep;have:=hy.siz
 unfold aw
 refine ⟨?_,hk.fd ?_, ?_⟩
 ·rw [OkT,aL,aL,aL,aU]
  exact ⟨⟨by unfold aK;omega,by unfold aK;omega,by decide,(fun c hc=>by cases hc),by simp,by simp,by simp⟩,⟨hx.ok,hy.ok,trivial⟩,trivial⟩
 ·rw [ai,ax,ax,ax,aM];omega
 ·rw [ao,au,au,au,aA];omega
theorem NS (hk4:F4 k) {t k0 k1':Tm} (hkd:t.kids=[k0,k1']) (f0:Fm k0) (f1:Fm k1') (fa:Fm (Tm.mk x1 x2 x3 x4 x5 x6)) (sy: ∀b∈sys,b.kids=[ak b]∧Fm (ak b)∧RX true b.face) (syl:sys.length≤20000) (ret:Int×Int×ByteArray×List Tm×Int→Option S):
  ∃ks c,xP k t 0 x1 x2 x3 x4 x5 x6 sys ret=ret (8,0,ByteArray.empty,ks,c)∧In k (aw 8 ks)∧(∀z,rl k0 k1' (Tm.mk x1 x2 x3 x4 x5 x6) sys= .ok z→aw 8 ks=z∧c=0)∧ ∀e,rl k0 k1' (Tm.mk x1 x2 x3 x4 x5 x6) sys= .error e→e≠0∧c=e:=by
 have hk:=hk4.f3
 obtain ⟨g0,g1⟩:=pD hkd
 generalize ha:Tm.mk x1 x2 x3 x4 x5 x6=a at fa
 have p9:=zl hk (kd:=9) (by omega) sy syl
 have p10:=zl hk (kd:=10) (by omega) sy syl
 have a9:=uZ (kd:=9) (by omega) (.inl fa)
 have a10:=uZ (kd:=10) (by omega) (.inl fa)
 have i9:In k (aw 9 [a]):=a9.1.isIn hk (by omega)
 have i10:In k (aw 10 [a]):=a10.1.isIn hk (by omega)
 generalize hF:mM 0 (bY [k0,aw 9 [a],a7 (parts 9 sys)] (dp k0 (aw 9 [a]) (parts 9 sys)))=F
 generalize hB:mM F.2 (aD 0 1 k1')=B
 generalize hL:mM B.2 (mA 0 B.1 F.1)=L
 generalize hC:mM L.2 (bY [L.1,aw 10 [a],a7 (parts 10 sys)] (eb L.1 (aw 10 [a]) (parts 10 sys)))=C
 have fF:FN F.1:=by rw [←hF];exact ef fun t h=>H2 hk (f0.isIn hk) i9 p9 h
 have fB:FN B.1:=by rw [←hB];exact ef fun t h=>dA (by omega) f1 h
 have fL:FN L.1:=by
  rw [←hL]
  refine ef fun t h=> ?_
  unfold mA dX at h
  split at h
  case isFalse=>cases h
  rename_i q1
  split at h
  case isFalse=>cases h
  rename_i q2
  exact KG (by omega) ⟨fB.sm.1.ok,q1⟩ ⟨fF.sm.1.ok,q2⟩ h
 have iF:In k F.1:=fF.sm.1.isIn hk (by omega)
 have iB:In k B.1:=fB.sm.1.isIn hk (by omega)
 have iL:In k L.1:=fL.sm.1.isIn hk (by omega)
 have fC:FN C.1:=by rw [←hC];exact YK hk iL i10 p10 L.2
 have h15:=E3 (n:=80001) (f0.sm.mono (by omega)) a9.1 (by have:=f0.dep;omega) (by omega) (by omega) (KA (kd:=9) (by omega) sy) (by omega) (by unfold parts;rw [List.length_map];omega)
 refine ⟨[.mk 15 0 ByteArray.empty [] [k0,aw 9 [a]] (parts 9 sys),C.1],C.2, ?_,Zq hk (by omega) h15 (fC.sm.1.mono (by omega)), ?_⟩
 ·simp only [xP,Pm,ap hk.fu,aJ,afz hk (fun b hb=>(sy b hb).1) syl,g0,g1,Option.bind_some,dV,mS,dI,kr,ha]
  have e9:Tm.mk 9 0 ByteArray.empty [] [a] []=aw 9 [a]:=rfl
  have e10:Tm.mk 10 0 ByteArray.empty [] [a] []=aw 10 [a]:=rfl
  rw [e9,e10,NX hk (fun _=>⟨f0.isIn hk,i9,p9⟩) (fun e h=>u7 (fun e h=>tv h) h),hF,afE hk (fun _=>f1),hB,afI hk4 (fun _=>⟨iB,iF⟩),hL,afF hk (fun _=>⟨iL,i10,p10⟩) (fun e h=>u7 (fun e h=>G7 h) h),hC]
 ·unfold rl
  rw [cE] at hF
  cases q1:bY [k0,aw 9 [a],a7 (parts 9 sys)] (dp k0 (aw 9 [a]) (parts 9 sys)) with
  |error e=>
   have he:=Ad (fun e h=>tv h) q1
   rw [q1] at hF;subst hF
   rw [show (tE (.error e)).2=e from rfl,cj (show e≠0 by omega)] at hB;subst hB
   dsimp only at hL
   rw [cj (show e≠0 by omega)] at hL;subst hL
   dsimp only at hC
   rw [cj (show e≠0 by omega)] at hC;subst hC
   exact ⟨fun z h=>(by cases h),fun e' h=>by injection h with h;subst h;exact ⟨by omega,rfl⟩⟩
  |ok f=>
   have ff:=H2 hk (f0.isIn hk) i9 p9 q1
   rw [q1] at hF;subst hF
   rw [show (tE (.ok f)).2=0 from rfl,cE] at hB
   rw [aN]
   cases q2:aD 0 1 k1' with
   |error e=>
    have he:=bV q2
    rw [q2] at hB;subst hB
    rw [show (tE (.error e)).2=e from rfl,cj (show e≠0 by omega)] at hL;subst hL
    dsimp only at hC
    rw [cj (show e≠0 by omega)] at hC;subst hC
    exact ⟨fun z h=>(by cases h),fun e' h=>by injection h with h;subst h;exact ⟨by omega,rfl⟩⟩
   |ok b=>
    have fb:=dA (by omega) f1 q2
    rw [q2] at hB;subst hB
    rw [show (tE (.ok b)).2=0 from rfl,show (tE (.ok b)).1=b from rfl,show (tE (.ok f)).1=f from rfl,cE,show mA 0 b f=gk 0 b f from by unfold mA dX;rw [if_pos fb.2,if_pos ff.2]] at hL
    rw [aN]
    cases q3:gk 0 b f with
    |error e=>
     have he:=KF q3
     rw [q3] at hL;subst hL
     rw [show (tE (.error e)).2=e from rfl,cj (show e≠0 by omega)] at hC;subst hC
     exact ⟨fun z h=>(by cases h),fun e' h=>by injection h with h;subst h;exact ⟨by omega,rfl⟩⟩
    |ok line=>
     rw [q3] at hL;subst hL
     rw [show (tE (.ok line)).2=0 from rfl,show (tE (.ok line)).1=line from rfl,cE] at hC
     rw [aN]
     cases q4:bY [line,aw 10 [a],a7 (parts 10 sys)] (eb line (aw 10 [a]) (parts 10 sys)) with
     |error e=>
      have he:=Ad (fun e h=>G7 h) q4
      rw [q4] at hC;subst hC
      exact ⟨fun z h=>(by cases h),fun e' h=>by injection h with h;subst h;exact ⟨by omega,rfl⟩⟩
     |ok y=>
      rw [q4] at hC;subst hC
      exact ⟨fun z h=>by injection h with h;subst h;exact ⟨rfl,rfl⟩,fun e h=>by cases h⟩
end
end Go.Proofs.YtgajalidbabccaaGreatDoor
namespace Go.Proofs.YtgajalidbabccaaGreatDoor
open Go PI
set_option linter.unusedVariables false
set_option linter.unusedSimpArgs false
set_option maxRecDepth 20000
variable {S:Type} {k:Nat}
abbrev lr (r:List Cl) (u lo hi:Tm):Tm:= .mk 13 0 ByteArray.empty r [u,lo,hi] []
def ji (l r:Tm) (x:Br Tm):Except Int (Br Tm):=
 bE (d5 (bA x.face 0 1)) fun f=>bE (bh 0 1 0 1 (ak x)) fun u=>bE (aD 0 2 l) fun lo=>bE (aD 0 2 r) fun hi=> .ok ⟨f,[lr [⟨2,0⟩] u lo hi]⟩
def qJ (k0 l r a:Tm) (sys:List (Br Tm)):Except Int Tm:=
 bE (aD 0 1 a) fun p=>bE (aD 0 1 l) fun lo=>bE (aD 0 1 r) fun hi=>bE (cQ (ji l r) sys) fun bs=>bE (aD 0 2 l) fun l2=>bE (aD 0 2 r) fun r2=>
 .ok (aw 12 [.mk 15 0 ByteArray.empty [] [k0,lr [⟨1,0⟩] p lo hi] (bs++[⟨[⟨0,1⟩],[l2]⟩]++[⟨[⟨1,0⟩],[r2]⟩])])
theorem KC {l r:Tm} {x:Br Tm} {e:Int} (h:ji l r x= .error e):0<e∧e≤1000:=by
 unfold ji at h
 rcases aW h with h|⟨_,_,h⟩
 ·exact Qe (tL _ _ _) h
 rcases aW h with h|⟨_,_,h⟩
 ·exact n8 _ h
 rcases aW h with h|⟨_,_,h⟩
 ·exact bV h
 rcases aW h with h|⟨_,_,h⟩
 ·exact bV h
 ·cases h
theorem uo {a b:Int} (ha:0≤a∧a<4294967296) (hb:0≤b∧b<4294967296):aE [⟨a,b⟩]∧[(⟨a,b⟩:Cl)].length<1073741824:=⟨fun c hc=>by rw [List.mem_singleton] at hc;subst hc;exact ⟨ha,hb⟩,by simp⟩
theorem Ok {r:List Cl} (hr:aE r∧r.length<1073741824) {u lo hi:Tm} (f1:FN u) (f2:FN lo) (f3:FN hi):Sm 60001 (lr r u lo hi)∧ai (lr r u lo hi)≤201:=by
 have a1:=f1.sm;have a2:=f2.sm;have a3:=f3.sm
 refine ⟨(mP (kd:=13) (by omega) hr (ks:=[u,lo,hi]) (sys:=[]) (n:=60000) (m:=0) (fun x hx=>by
  simp at hx
  rcases hx with rfl|rfl|rfl
  ·exact ⟨a1.1.ok,by omega⟩
  ·exact ⟨a2.1.ok,by omega⟩
  ·exact ⟨a3.1.ok,by omega⟩) (by simp) (by rw [au,au,au,au];have:=a1.1.siz;have:=a2.1.siz;have:=a3.1.siz;omega) (by rw [aU];trivial) (by simp) (by rw [aM];omega) (by rw [aA];omega)).mono (by omega), ?_⟩
 rw [ai,ax,ax,ax,ax,aM];omega
section
variable {x1 x2:Int} {x3:ByteArray} {x4:List Cl} {x5:List Tm} {x6 sys:List (Br Tm)}
def mz (l r:Tm) (c:Int) (x:Br Tm):Br Tm×Int:=
 let R:=if c=0 then bA x.face 0 1 else ([],c)
 let U:=mM R.2 (bh 0 1 0 1 (ak x))
 let A:=mM U.2 (aD 0 2 l)
 let B:=mM A.2 (aD 0 2 r)
 (⟨R.1,[lr [⟨2,0⟩] U.1 A.1 B.1]⟩,B.2)
theorem adp {l r:Tm} {x:Br Tm} {b:Br Tm} (h:ji l r x= .ok b):mz l r 0 x=(b,0):=by
 unfold ji at h
 obtain ⟨f,h1,h⟩:=ae h
 obtain ⟨u,h2,h⟩:=ae h
 obtain ⟨lo,h3,h⟩:=ae h
 obtain ⟨hi,h4,h⟩:=ae h
 injection h with h;subst h
 obtain ⟨p0,rfl⟩:=iz h1
 unfold mz
 simp only [if_pos,p0,cE,h2,h3,h4]
 rfl
theorem adq {l r:Tm} {x:Br Tm} {e:Int} (h:ji l r x= .error e):e≠0∧(mz l r 0 x).2=e:=by
 have he:=KC h
 refine ⟨by omega, ?_⟩
 have hne:e≠0:=by omega
 unfold ji at h
 unfold mz
 simp only [if_pos]
 by_cases p0:(bA x.face 0 1).2=0
 ·rw [rq p0,aN] at h
  rw [p0,cE]
  cases q2:bh 0 1 0 1 (ak x) with
  |error e'=>
   rw [q2,d7] at h;injection h with h;subst h
   rw [show (tE (.error e')).2=e' from rfl,cj hne,cj hne]
  |ok u=>
   rw [q2,aN] at h
   rw [show (tE (.ok u)).2=0 from rfl,cE]
   cases q3:aD 0 2 l with
   |error e'=>
    rw [q3,d7] at h;injection h with h;subst h
    rw [show (tE (.error e')).2=e' from rfl,cj hne]
   |ok lo=>
    rw [q3,aN] at h
    rw [show (tE (.ok lo)).2=0 from rfl,cE]
    cases q4:aD 0 2 r with
    |error e'=>rw [q4,d7] at h;injection h with h
    |ok hi=>rw [q4,aN] at h;cases h
 ·rw [vg p0,d7] at h;injection h with h;subst h
  rw [cj hne,cj hne,cj hne]
theorem adr {l r:Tm} {x:Br Tm} {c:Int} (hc:c≠0):(mz l r c x).2=c:=by
 unfold mz
 simp only [if_neg hc,cj hc]
theorem NQ (hk:F3 k) {t k0 l r:Tm} (hkd:t.kids=[k0,l,r]) (f0:Fm k0) (f1:Fm l) (f2:Fm r) (fa:Fm (Tm.mk x1 x2 x3 x4 x5 x6)) (sy: ∀b∈sys,b.kids=[ak b]∧Fm (ak b)∧RX true b.face) (syl:sys.length≤19000) (ret:Int×Int×ByteArray×List Tm×Int→Option S):
  ∃y c,xM k t 0 x1 x2 x3 x4 x5 x6 sys ret=ret (12,0,ByteArray.empty,[y],c)∧In k (aw 12 [y])∧(∀z,qJ k0 l r (Tm.mk x1 x2 x3 x4 x5 x6) sys= .ok z→aw 12 [y]=z∧c=0)∧ ∀e,qJ k0 l r (Tm.mk x1 x2 x3 x4 x5 x6) sys= .error e→e≠0∧c=e:=by
 have hfu:4294968296≤k:=hk
 have g0:aq t.kids 0=some k0:=gL (n:=0) rfl (by rw [hkd];rfl)
 have g1:aq t.kids 1=some l:=gL (n:=1) rfl (by rw [hkd];rfl)
 have g2:aq t.kids 2=some r:=gL (n:=2) rfl (by rw [hkd];rfl)
 generalize ha:Tm.mk x1 x2 x3 x4 x5 x6=a at fa
 have u01: ∀ {t:Tm} (ft:Fm t) (c:Int) (g:Tm×Int→Option S),eu k t 0 1 c g=g (mM c (aD 0 1 t)):=fun ft c g=>uT hk ft (by omega) (by omega) g
 have u02: ∀ {t:Tm} (ft:Fm t) (c:Int) (g:Tm×Int→Option S),eu k t 0 2 c g=g (mM c (aD 0 2 t)):=fun ft c g=>uT hk ft (by omega) (by omega) g
 generalize hP:mM 0 (aD 0 1 a)=P
 generalize hLo:mM P.2 (aD 0 1 l)=Lo
 generalize hHi:mM Lo.2 (aD 0 1 r)=Hi
 have fP:FN P.1:=by rw [←hP];exact ef fun t h=>dA (by omega) fa h
 have fLo:FN Lo.1:=by rw [←hLo];exact ef fun t h=>dA (by omega) f1 h
 have fHi:FN Hi.1:=by rw [←hHi];exact ef fun t h=>dA (by omega) f2 h
 have key:=fun RET=>Cr (S:=S) (l:=sys) (L:=fun m c i acc=>p7 k ret x1 x2 x3 x4 x5 x6 sys t l r (13,0,ByteArray.empty,[⟨1,0⟩],[P.1,Lo.1,Hi.1]) m c acc i) (ret:=RET) (g:=mz l r) (F:=ji l r) (Q:=GF 60001) (by omega)
 obtain ⟨l',h1,h2,h3,h4⟩:=key (fun q=>ret (12,0,ByteArray.empty,[.mk 15 0 ByteArray.empty [] [k0,lr [⟨1,0⟩] P.1 Lo.1 Hi.1] (q.1++[⟨[⟨0,1⟩],[(mM q.2 (aD 0 2 l)).1]⟩]++[⟨[⟨1,0⟩],[(mM (mM q.2 (aD 0 2 l)).2 (aD 0 2 r)).1]⟩])],(mM (mM q.2 (aD 0 2 l)).2 (aD 0 2 r)).2))
  (fun m c acc hacc=>by
   have:=cD (l:=sys) (p:=sys) (by simp)
   simp only [p7,v_,this,af,ap hk.fu,aJ,u02 f1,u02 f2,dU,ko,dV,mS,dI,kr]
   rw [bL (by simp;omega),bL (by simp;omega),g0];rfl)
  (fun m c x p q acc h hacc=>by
   obtain ⟨e1,e2,e3,_⟩:=aV h (by omega)
   obtain ⟨q1,q2,q3⟩:=sy x (by rw [h];simp)
   have hg:aq x.kids 0=some (ak x):=gL (n:=0) rfl (by rw [q1];rfl)
   have hd1:lZ 1 1 (ak x)=bh 0 1 0 1 (ak x):=if_pos q2.2
   simp only [p7,v_,e1,al,e2,Option.bind_some,hg,ap hk.fu,aJ,u02 f1,u02 f2,dU,ko,s9,FX,e3]
   rw [afJ hk q3.1.2 (kj q3).2 (by omega),afH hk (b:=1) (fun _=>q2.isIn hk) (by omega),hd1,bL (by simp;omega)]
   rfl)
  (fun x hx b h=>adp h) (fun x hx e h=>adq h) (fun x hx c hc=>adr hc)
  (fun x hx c=>by
   obtain ⟨q1,q2,q3⟩:=sy x hx
   unfold mz
   have fU: ∀c,FN (mM c (bh 0 1 0 1 (ak x))).1:=fun c=>ef fun t h=>ja (by omega) q2 h
   have fA: ∀c,FN (mM c (aD 0 2 l)).1:=fun c=>ef fun t h=>dA (by omega) f1 h
   have fB: ∀c,FN (mM c (aD 0 2 r)).1:=fun c=>ef fun t h=>dA (by omega) f2 h
   have h13:=Ok (uo (a:=2) (b:=0) (by omega) (by omega)) (fU (if c=0 then bA x.face 0 1 else ([],c)).2) (fA (mM (if c=0 then bA x.face 0 1 else ([],c)).2 (bh 0 1 0 1 (ak x))).2) (fB (mM (mM (if c=0 then bA x.face 0 1 else ([],c)).2 (bh 0 1 0 1 (ak x))).2 (aD 0 2 l)).2)
   refine ⟨_,rfl,h13.1,by have:=h13.2;omega, ?_⟩
   show aE (if c=0 then bA x.face 0 1 else ([],c)).1∧_
   split
   ·exact abW q3.1
   ·exact ⟨fun c hc=>(by cases hc),by simp⟩)
  sys [] [] k Hi.2 rfl (by omega) (by simp;omega)
 generalize hE:h9 (jv Hi.2 (cQ (ji l r) sys))=E at h1
 generalize hA:mM E (aD 0 2 l)=A at h1
 generalize hB:mM A.2 (aD 0 2 r)=B at h1
 have fA:FN A.1:=by rw [←hA];exact ef fun t h=>dA (by omega) f1 h
 have fB:FN B.1:=by rw [←hB];exact ef fun t h=>dA (by omega) f2 h
 have h13:=Ok (uo (a:=1) (b:=0) (by omega) (by omega)) fP fLo fHi
 have hbr:eD 60001 (l'++[⟨[⟨0,1⟩],[A.1]⟩]++[⟨[⟨1,0⟩],[B.1]⟩]):=BA (BA h3 (nj (uo (by omega) (by omega)) (fA.sm.1.mono (by omega)) (by have:=fA.sm.2;omega) (nn _))) (nj (uo (by omega) (by omega)) (fB.sm.1.mono (by omega)) (by have:=fB.sm.2;omega) (nn _))
 refine ⟨_,B.2, ?_,Im hk (by omega) (E3 (n:=60001) (x:=k0) (y:=lr [⟨1,0⟩] P.1 Lo.1 Hi.1) (f0.sm.mono (by omega)) h13.1 (by have:=f0.dep;omega) (by have:=h13.2;omega) (by omega) hbr (by omega) (by simp;omega)), ?_⟩
 ·simp only [xM,FK,ap hk.fu,aJ,g1,g2,Option.bind_some,ha,u01 fa,u01 f1,u01 f2,s9,FX,hP,hLo,hHi]
  exact h1
 ·unfold qJ
  rw [cE] at hP
  cases q1:aD 0 1 a with
  |error e=>
   have he:=bV q1
   have hne:e≠0:=by omega
   rw [q1] at hP;subst hP
   rw [show (tE (.error e)).2=e from rfl,cj hne] at hLo;subst hLo
   dsimp only at hHi
   rw [cj hne] at hHi;subst hHi
   rw [dh hne] at hE
   have hE:e=E:=hE
   subst hE
   rw [cj hne] at hA;subst hA
   dsimp only at hB
   rw [cj hne] at hB;subst hB
   exact ⟨fun z h=>(by cases h),fun e' h=>by injection h with h;subst h;exact ⟨hne,rfl⟩⟩
  |ok p=>
   rw [q1] at hP;subst hP
   rw [show (tE (.ok p)).2=0 from rfl,cE] at hLo
   rw [aN]
   cases q2:aD 0 1 l with
   |error e=>
    have he:=bV q2
    have hne:e≠0:=by omega
    rw [q2] at hLo;subst hLo
    rw [show (tE (.error e)).2=e from rfl,cj hne] at hHi;subst hHi
    rw [dh hne] at hE
    have hE:e=E:=hE
    subst hE
    rw [cj hne] at hA;subst hA
    dsimp only at hB
    rw [cj hne] at hB;subst hB
    exact ⟨fun z h=>(by cases h),fun e' h=>by injection h with h;subst h;exact ⟨hne,rfl⟩⟩
   |ok lo=>
    rw [q2] at hLo;subst hLo
    rw [show (tE (.ok lo)).2=0 from rfl,cE] at hHi
    rw [aN]
    cases q3:aD 0 1 r with
    |error e=>
     have he:=bV q3
     have hne:e≠0:=by omega
     rw [q3] at hHi;subst hHi
     rw [show (tE (.error e)).2=e from rfl,dh hne] at hE
     have hE:e=E:=hE
     subst hE
     rw [cj hne] at hA;subst hA
     dsimp only at hB
     rw [cj hne] at hB;subst hB
     exact ⟨fun z h=>(by cases h),fun e' h=>by injection h with h;subst h;exact ⟨hne,rfl⟩⟩
    |ok hi=>
     rw [q3] at hHi;subst hHi
     rw [show (tE (.ok hi)).2=0 from rfl,dq] at hE h4
     rw [aN]
     cases q4:cQ (ji l r) sys with
     |error e=>
      have he:=Dx (fun x _ e h=>KC h) q4
      have hne:e≠0:=by omega
      rw [q4] at hE
      have hE:e=E:=hE
      subst hE
      rw [cj hne] at hA;subst hA
      dsimp only at hB
      rw [cj hne] at hB;subst hB
      exact ⟨fun z h=>(by cases h),fun e' h=>by injection h with h;subst h;exact ⟨hne,rfl⟩⟩
     |ok bs=>
      have:=h4 bs q4
      subst this
      rw [q4] at hE
      have hE:0=E:=hE
      subst hE
      rw [cE] at hA
      rw [aN]
      cases q5:aD 0 2 l with
      |error e=>
       have he:=bV q5
       have hne:e≠0:=by omega
       rw [q5] at hA;subst hA
       rw [show (tE (.error e)).2=e from rfl,cj hne] at hB;subst hB
       exact ⟨fun z h=>(by cases h),fun e' h=>by injection h with h;subst h;exact ⟨hne,rfl⟩⟩
      |ok l2=>
       rw [q5] at hA;subst hA
       rw [show (tE (.ok l2)).2=0 from rfl,cE] at hB
       rw [aN]
       cases q6:aD 0 2 r with
       |error e=>
        have he:=bV q6
        rw [q6] at hB;subst hB
        exact ⟨fun z h=>(by cases h),fun e' h=>by injection h with h;subst h;exact ⟨by omega,rfl⟩⟩
       |ok r2=>
        rw [q6] at hB;subst hB
        exact ⟨fun z h=>by injection h with h;subst h;exact ⟨rfl,rfl⟩,fun e h=>by cases h⟩
end
end Go.Proofs.YtgajalidbabccaaGreatDoor
namespace Go.Proofs.YtgajalidbabccaaGreatDoor
open Go PI
set_option linter.unusedVariables false
set_option linter.unusedSimpArgs false
set_option maxRecDepth 20000
variable {S:Type} {k:Nat}
def nI:Tm:=aw 8 nH
def iA (a:Tm) (x:Br Tm):Except Int (Br Tm):=
 bE (di 0 [⟨0,0⟩] (ak x)) fun e=>bE (aD 0 1 a) fun a'=>bE (bY [ak x,a'] (eW (ak x) a')) fun l=> .ok ⟨x.face,[e,aw 14 [l,nI]]⟩
def rx (a:Tm) (sys:List (Br Tm)):Except Int Tm:=bE (cQ (iA a) sys) fun bs=> .ok (.mk 16 0 ByteArray.empty [] [a] bs)
theorem HR {t a:Tm} {e:Int} (h:eW t a= .error e):0<e∧e≤1000:=by
 rcases aW h with h|⟨_,_,h⟩
 ·exact bV h
 rcases aW h with h|⟨_,_,h⟩
 ·exact bV h
 rcases aW h with h|⟨_,_,h⟩
 ·exact bV h
 rcases aW h with h|⟨_,_,h⟩
 ·exact bV h
 rcases aW h with h|⟨_,_,h⟩
 ·exact YA h
 rcases aW h with h|⟨_,_,h⟩
 ·rcases aW h with h|⟨_,_,h⟩
  ·exact bV h
  rcases aW h with h|⟨_,_,h⟩
  ·exact bV h
  ·cases h
 ·cases h
theorem Qi {a:Tm} {x:Br Tm} {e:Int} (h:iA a x= .error e):0<e∧e≤1000:=by
 unfold iA at h
 rcases aW h with h|⟨_,_,h⟩
 ·exact ve h
 rcases aW h with h|⟨_,_,h⟩
 ·exact bV h
 rcases aW h with h|⟨_,_,h⟩
 ·exact Ad (fun e h=>HR h) h
 ·cases h
theorem id_fm:Fm nI:=⟨by
 have:=(show OkT (aw 8 nH) from by
  unfold nH zr vN aw
  repeat' first|rw [OkT]|rw [aL]|rw [aU]|refine ⟨?_, ?_⟩|refine ⟨⟨by unfold aK;omega,by unfold aK;omega,by decide, ?_,by simp,by simp,by simp⟩, ?_, ?_⟩|trivial|exact (uo (by omega) (by omega)).1|exact (fun c hc=>by cases hc))
 exact this,Yz⟩
section
variable {x1 x2:Int} {x3:ByteArray} {x4:List Cl} {x5:List Tm} {x6 sys:List (Br Tm)}
def mU (a:Tm) (c:Int) (x:Br Tm):Br Tm×Int:=
 let E:=mM c (di 0 [⟨0,0⟩] (ak x))
 let A:=mM E.2 (aD 0 1 a)
 let Q:=mM A.2 (bY [ak x,A.1] (eW (ak x) A.1))
 (⟨x.face,[E.1,aw 14 [Q.1,nI]]⟩,Q.2)
theorem ahc {a:Tm} {x b:Br Tm} (h:iA a x= .ok b):mU a 0 x=(b,0):=by
 unfold iA at h
 obtain ⟨e,h1,h⟩:=ae h
 obtain ⟨a',h2,h⟩:=ae h
 obtain ⟨l,h3,h⟩:=ae h
 injection h with h;subst h
 unfold mU
 simp only [cE,h1,h2]
 show (_,(mM 0 (bY [ak x,a'] (eW (ak x) a'))).2)=_
 rw [cE,h3]
 show (Br.mk x.face [e,aw 14 [(mM 0 (bY [ak x,a'] (eW (ak x) a'))).1,nI]],(0:Int))=_
 rw [cE,h3];rfl
theorem ahd {a:Tm} {x:Br Tm} {e:Int} (h:iA a x= .error e):e≠0∧(mU a 0 x).2=e:=by
 have he:=Qi h
 have hne:e≠0:=by omega
 refine ⟨hne, ?_⟩
 unfold iA at h
 unfold mU
 dsimp only
 rw [cE]
 cases q1:di 0 [⟨0,0⟩] (ak x) with
 |error e'=>
  rw [q1,d7] at h;injection h with h;subst h
  rw [show (tE (.error e')).2=e' from rfl,cj hne,cj hne]
 |ok v=>
  rw [q1,aN] at h
  rw [show (tE (.ok v)).2=0 from rfl,cE]
  cases q2:aD 0 1 a with
  |error e'=>
   rw [q2,d7] at h;injection h with h;subst h
   rw [show (tE (.error e')).2=e' from rfl,cj hne]
  |ok a'=>
   rw [q2,aN] at h
   show (mM 0 (bY [ak x,a'] (eW (ak x) a'))).2=e
   rw [cE]
   cases q3:bY [ak x,a'] (eW (ak x) a') with
   |error e'=>rw [q3,d7] at h;injection h with h
   |ok l=>rw [q3,aN] at h;cases h
theorem ahe {a:Tm} {x:Br Tm} {c:Int} (hc:c≠0):(mU a c x).2=c:=by
 unfold mU
 simp only [cj hc]
theorem py {t:Tm} (h:Fm t) (hz:ao t≤150):Fd2 150 150 t:=⟨h.ok,h.f2.2.1,by have:=tl t;omega,hz⟩
theorem Kl:ao ar≤150:=by unfold ar;rw [ao,au,aA];omega
theorem afc (hk:F3 k) {t a:Tm} {c:Int} (ht:In k t) (ha:In k a) (zt:ao t≤150) (za:ao a≤150) (ret:Tm×Int→Option S):yd k t a c ret=ret (mM c (bY [t,a] (eW t a))):=by
 simp only [yd,PG,ap hk.fu,cY,jy,aJ,kl]
 exact oe c (fun h g=>ae1 hk ht ha zt za g) (fun e h=>u7 (fun e h=>HR h) h) ret
theorem H1 {t a:Tm} (ft:Fm t) (fa:Fm a) (zt:ao t≤150) (za:ao a≤150) {y:Tm} (h:bY [t,a] (eW t a)= .ok y):Fm y:=by
 obtain ⟨so,fy,hx⟩:=kn h
 exact ⟨(HS (by omega) (by omega) (py ft zt) (py fa za) hx).1,fy⟩
def GG (x:Br Tm):Prop:= ∃t u,x.kids=[t,u]∧Sm 20000 t∧Sm 80001 u∧ai t≤200∧ai u≤201∧aE x.face∧x.face.length<1073741824
theorem VH {l:List (Br Tm)} (h: ∀x∈l,GG x):aU l∧aA l≤l.length*100001∧aM l≤201:=by
 induction l with
 |nil=>exact ⟨by rw [aU];trivial,by rw [aA];simp,by rw [aM];omega⟩
 |cons x l ih=>
  obtain ⟨i1,i2,i3⟩:=ih fun x hx=>h x (by simp [hx])
  obtain ⟨t,u,e,h1,h2,d1,d2,h3,h4⟩:=h x (by simp)
  obtain ⟨f,ks⟩:=x
  have e:ks=[t,u]:=e
  subst e
  refine ⟨?_, ?_, ?_⟩
  ·rw [aU,dP,aL,aL,aL];exact ⟨⟨⟨h3,h4,by simp⟩,h1.ok,h2.ok,trivial⟩,i1⟩
  ·rw [aA,d4,au,au,au,List.length_cons,Nat.succ_mul];have:=h1.siz;have:=h2.siz;omega
  ·rw [aM,eL,ax,ax,ax];omega
theorem NT (hk:F3 k) (fa:Fm (Tm.mk x1 x2 x3 x4 x5 x6)) (za:ao (Tm.mk x1 x2 x3 x4 x5 x6)≤150) (sy: ∀b∈sys,b.kids=[ak b]∧Fm (ak b)∧RX true b.face) (zs: ∀b∈sys,ao (ak b)≤150) (syl:sys.length≤20000) (ret:Int×Int×ByteArray×List Tm×List (Br Tm)×Int→Option S):
  ∃l c,xQ k 0 x1 x2 x3 x4 x5 x6 sys ret=ret (16,0,ByteArray.empty,[Tm.mk x1 x2 x3 x4 x5 x6],l,c)∧In k (.mk 16 0 ByteArray.empty [] [Tm.mk x1 x2 x3 x4 x5 x6] l)∧(∀z,rx (Tm.mk x1 x2 x3 x4 x5 x6) sys= .ok z→ .mk 16 0 ByteArray.empty [] [Tm.mk x1 x2 x3 x4 x5 x6] l=z∧c=0)∧ ∀e,rx (Tm.mk x1 x2 x3 x4 x5 x6) sys= .error e→e≠0∧c=e:=by
 have hfu:4294968296≤k:=hk
 obtain ⟨q,hq⟩: ∃q,k=q+100:=⟨k-100,by omega⟩
 have hid: ∀g:Int×Int×ByteArray×List Tm→Option S,xb k g=g (8,0,ByteArray.empty,nH):=fun g=>by rw [hq];exact Zg q g
 generalize ha:Tm.mk x1 x2 x3 x4 x5 x6=a at fa za
 have hA: ∀c,FN (mM c (aD 0 1 a)).1∧ao (mM c (aD 0 1 a)).1≤150:=fun c=>by
  refine ⟨ef fun t h=>dA (by omega) fa h, ?_⟩
  unfold mM
  split
  ·cases h:aD 0 1 a with
   |error e=>exact Kl
   |ok a'=>exact ((py fa za).up (by omega) h).2.2.2
  ·exact Kl
 have key:=fun RET=>Cr (S:=S) (l:=sys) (L:=fun m c i acc=>p_ k RET x1 x2 x3 x4 x5 x6 sys m c i acc) (ret:=RET) (g:=mU a) (F:=iA a) (Q:=GG) syl
  (fun m c acc _=>by
   have:=cD (l:=sys) (p:=sys) (by simp)
   simp only [p_,wc,this,af])
  (fun m c x p r acc h hacc=>by
   obtain ⟨e1,e2,e3,_⟩:=aV h (by omega)
   have hx:x∈sys:=by rw [h];simp
   obtain ⟨q1,q2,_⟩:=sy x hx
   have hg:aq x.kids 0=some (ak x):=gL (n:=0) rfl (by rw [q1];rfl)
   have htk:rp 0 [⟨0,0⟩] (ak x)=di 0 [⟨0,0⟩] (ak x):=if_pos q2.2
   simp only [p_,wc,e1,al,e2,Option.bind_some,hg,ap hk.fu,aJ,B4,Pn,ha,dU,ko,dI,kr,e3,hid]
   rw [afG hk (fun _=>q2.isIn hk),htk,uT hk fa (by omega) (by omega),afc hk (q2.isIn hk) ((hA _).1.sm.1.isIn hk (by omega)) (zs x hx) (hA _).2,bL (by simp;omega)]
   rfl)
  (fun x hx b h=>ahc h) (fun x hx e h=>ahd h) (fun x hx c hc=>ahe hc)
  (fun x hx c=>by
   obtain ⟨q1,q2,q3⟩:=sy x hx
   have fE:FN (mM c (di 0 [⟨0,0⟩] (ak x))).1∨True:= .inr trivial
   have sE:Sm 20000 (mM c (di 0 [⟨0,0⟩] (ak x))).1∧ai (mM c (di 0 [⟨0,0⟩] (ak x))).1≤200:=by
    unfold mM
    split
    ·cases hh:di 0 [⟨0,0⟩] (ak x) with
     |error e=>exact (FN.sm (.inr rfl))
     |ok e=>
      obtain ⟨w1,w2,w3⟩:=P8 q2 hh
      exact ⟨⟨w1,w3,(show ai e≤300 by omega)⟩,w2⟩
    ·exact (FN.sm (.inr rfl))
   unfold mU
   dsimp only
   generalize hE:mM c (di 0 [⟨0,0⟩] (ak x))=E at sE
   have hA':=hA E.2
   generalize hA2:mM E.2 (aD 0 1 a)=A at hA'
   have fQ:FN (mM A.2 (bY [ak x,A.1] (eW (ak x) A.1))).1:=ef fun t h=>by
    rcases hA'.1 with hf|hf
    ·exact H1 q2 hf (zs x hx) hA'.2 h
    ·obtain ⟨so,_,_⟩:=kn h
     have:=u9 (l:=[ak x,A.1]) (fun y hy=>by
      simp at hy
      rcases hy with rfl|rfl
      ·exact q2.ok
      ·exact hA'.1.sm.1.ok) so A.1 (by simp)
     exact H1 q2 this (zs x hx) hA'.2 h
   have h14:=oE (kd:=14) (by omega) (n:=20000) (ks:=[(mM A.2 (bY [ak x,A.1] (eW (ak x) A.1))).1,nI]) (fun y hy=>by
    simp at hy
    rcases hy with rfl|rfl
    ·exact ⟨fQ.sm.1,by have:=fQ.sm.2;omega⟩
    ·exact ⟨id_fm.sm,by have:=id_fm.dep;omega⟩) (by simp)
   refine ⟨_,_,rfl,sE.1,h14.1,sE.2, ?_,kj q3⟩
   unfold aw;rw [ai,ax,ax,ax,aM];have:=fQ.sm.2;have:=id_fm.dep;omega)
  sys [] [] k 0 rfl (by omega) (by simpa using syl)
 obtain ⟨l',h1,h2,h3,h4⟩:=key fun r1=>ret (16,0,ByteArray.empty,[a],r1.1,r1.2)
 obtain ⟨b1,b2,b3⟩:=VH h3
 have hz:aA l'≤20000*100001:=Nat.le_trans b2 (Nat.mul_le_mul_right _ (by omega))
 refine ⟨l',h9 (jv 0 (cQ (iA a) sys)), ?_, ?_, ?_⟩
 ·simp only [xQ,Po,ap hk.fu,pd,FM,ha,dV,mS]
  exact h1
 ·have:=fa.dep;have:=fa.siz
  refine ⟨?_,hk.fd ?_, ?_⟩
  ·rw [OkT,aL,aL]
   exact ⟨⟨by unfold aK;omega,by unfold aK;omega,by decide,(fun c hc=>by cases hc),by simp,by simp,by omega⟩,⟨fa.ok,trivial⟩,b1⟩
  ·rw [ai,ax,ax];omega
  ·rw [ao,au,au];omega
 ·unfold rx
  rw [dq] at h4 ⊢
  cases hm:cQ (iA a) sys with
  |error e=>
   have he:=Dx (fun x _ e h=>Qi h) hm
   exact ⟨fun z h=>(by cases h),fun e' h=>by injection h with h;subst h;exact ⟨by omega,rfl⟩⟩
  |ok l=>
   have:=h4 l hm
   subst this
   exact ⟨fun z h=>by injection h with h;subst h;exact ⟨rfl,rfl⟩,fun e h=>by cases h⟩
end
def nG (t:Tm):Except Int Tm:=
 let k0:=t.kids.getD 0 ar
 let a:=t.kids.getD 1 ar
 if k0.kind=4 then lv (k0.kids.getD 1 ar) a t.sys
 else if k0.kind=7 then rl (k0.kids.getD 0 ar) (k0.kids.getD 1 ar) a t.sys
 else if k0.kind=11 then qJ (k0.kids.getD 0 ar) (k0.kids.getD 1 ar) (k0.kids.getD 2 ar) a t.sys
 else if k0.kind=3 then rx a t.sys
 else oa t
def CK (t:Tm):Tm×Bool×Int:=
 if bQ t≠0 then (ar,false,bQ t) else
 if t.kind=15∧((t.kids.getD 0 ar).kind=4∨(t.kids.getD 0 ar).kind=7∨(t.kids.getD 0 ar).kind=11∨(t.kids.getD 0 ar).kind=3∨(t.kids.getD 0 ar).kind=16) then lE (nG t) else (ar,false,0)
theorem Oi {t x:Tm} (h:x∈t.kids):ao x≤ao t:=by have:=ju t;have:=ir h;omega
theorem afA (hk4:F4 k) {t:Tm} (ht:In k t) (hz:ao t≤150) (ret:Tm×Bool×Int→Option S):nx k t ret=ret (CK t):=by
 have hk:=hk4.f3
 simp only [nx,Ph,ap hk.fu,aJ,fX ht.1 ht.2.1 ht.dep]
 unfold CK
 by_cases h0:bQ t=0
 case neg=>rw [eH h0,Bool.not_false,al,if_pos h0];rfl
 rw [h0,show (!((0:Int)==0))=false from rfl,af,if_neg (by simp)]
 have ft:Fm t:=⟨ht.1,h0⟩
 by_cases h15:t.kind=15
 case neg=>rw [beq_false_of_ne h15,Bool.not_false,al,if_neg (fun h=>h15 h.1)];rfl
 rw [h15,show (!((15:Int)==15))=false from rfl,af,oA t ht.1 _ ht.2.1]
 obtain ⟨k0,a,hkd⟩:=kw (gN ft h15 (n:=2) rfl)
 obtain ⟨g0,g1⟩:=pD hkd
 obtain ⟨d0,d1⟩:=eX hkd
 have fk:Fm k0:=ft.kid (by rw [hkd];simp)
 have fa:Fm a:=ft.kid (by rw [hkd];simp)
 have za:ao a≤150:=Nat.le_trans (Oi (t:=t) (by rw [hkd];simp)) hz
 obtain ⟨sy,syl⟩:=ft.sy h15
 have zs: ∀b∈t.sys,ao (ak b)≤150:=fun b hb=>by
  have h1:=oD hb
  have h2:ak b∈b.kids:=by rw [(sy b hb).1];simp
  have h3:=ir h2
  have h4:=ju t
  omega
 have syl2:t.sys.length≤19000:=by
  have h4:=ju t
  have: ∀ {l:List (Br Tm)},(∀b∈l,b.kids=[ak b])→l.length≤aA l:=by
   intro l
   induction l with
   |nil=>intro _;simp
   |cons b l ih=>
    intro hl
    have:=ih fun b hb=>hl b (by simp [hb])
    have hb:=hl b (by simp)
    obtain ⟨f,ks⟩:=b
    have hb:ks=[ak ⟨f,ks⟩]:=hb
    rw [aA,d4,hb,au,au,List.length_cons];have:=km (ak ⟨f,ks⟩);omega
  have:=this (l:=t.sys) fun b hb=>(sy b hb).1
  omega
 have ea:Tm.mk a.kind a.n a.name a.r a.kids a.sys=a:=by cases a;rfl
 have fa':Fm (Tm.mk a.kind a.n a.name a.r a.kids a.sys):=by rw [ea];exact fa
 simp only [g0,g1,Option.bind_some]
 unfold nG
 rw [d0,d1]
 dsimp only
 by_cases h4:k0.kind=4
 ·obtain ⟨p,b,hb⟩:=kw (gN fk h4 (n:=2) rfl)
  obtain ⟨w1,i1,i2,i3,i4,i5⟩:=NR hk hb (fk.kid (by rw [hb];simp)) fa' sy syl (fun r5=>f8 k (Tm.mk r5.1 r5.2.1 r5.2.2.1 [] r5.2.2.2.1 []) r5.2.2.2.2 fun r6=>ret (r6.1,r6.2.1,r6.2.2.1))
  rw [if_pos ⟨trivial,.inl h4⟩,if_pos h4,h4,show ((4:Int)==4)=true from rfl,al]
  refine i2.trans ?_
  refine (uV hk i3 _).trans ?_
  rw [(eX hb).2]
  rw [ea] at i4 i5
  exact Ar i4 i5 ret
 rw [if_neg h4,beq_false_of_ne h4,af]
 by_cases h7:k0.kind=7
 ·obtain ⟨p,b,hb⟩:=kw (gN fk h7 (n:=2) rfl)
  obtain ⟨w1,i1,i2,i3,i4,i5⟩:=NS hk4 hb (fk.kid (by rw [hb];simp)) (fk.kid (by rw [hb];simp)) fa' sy syl (fun r5=>f8 k (Tm.mk r5.1 r5.2.1 r5.2.2.1 [] r5.2.2.2.1 []) r5.2.2.2.2 fun r6=>ret (r6.1,r6.2.1,r6.2.2.1))
  rw [if_pos ⟨trivial,.inr (.inl h7)⟩,if_pos h7,h7,show ((7:Int)==7)=true from rfl,al]
  refine i2.trans ?_
  refine (uV hk i3 _).trans ?_
  rw [(eX hb).1,(eX hb).2]
  rw [ea] at i4 i5
  exact Ar i4 i5 ret
 rw [if_neg h7,beq_false_of_ne h7,af]
 by_cases h11:k0.kind=11
 ·obtain ⟨p,l,r,hb⟩: ∃p l r,k0.kids=[p,l,r]:=by
   have:=gN fk h11 (n:=3) rfl
   match h:k0.kids,this with
   |[p,l,r],_=>exact ⟨p,l,r,rfl⟩
  obtain ⟨w1,i1,i2,i3,i4,i5⟩:=NQ hk hb (fk.kid (by rw [hb];simp)) (fk.kid (by rw [hb];simp)) (fk.kid (by rw [hb];simp)) fa' sy syl2 (fun r5=>f8 k (Tm.mk r5.1 r5.2.1 r5.2.2.1 [] r5.2.2.2.1 []) r5.2.2.2.2 fun r6=>ret (r6.1,r6.2.1,r6.2.2.1))
  rw [if_pos ⟨trivial,.inr (.inr (.inl h11))⟩,if_pos h11,h11,show ((11:Int)==11)=true from rfl,al]
  refine i2.trans ?_
  refine (uV hk i3 _).trans ?_
  rw [hb]
  rw [ea] at i4 i5
  exact Ar i4 i5 ret
 rw [if_neg h11,beq_false_of_ne h11,af]
 by_cases h3:k0.kind=3
 ·obtain ⟨w1,i1,i2,i3,i4,i5⟩:=NT hk fa' (by rw [ea];exact za) sy zs syl (fun r11=>f8 k (Tm.mk r11.1 r11.2.1 r11.2.2.1 [] r11.2.2.2.1 r11.2.2.2.2.1) r11.2.2.2.2.2 fun r6=>ret (r6.1,r6.2.1,r6.2.2.1))
  rw [if_pos ⟨trivial,.inr (.inr (.inr (.inl h3)))⟩,if_pos h3,h3,show ((3:Int)==3)=true from rfl,al]
  refine i2.trans ?_
  refine (uV hk i3 _).trans ?_
  rw [ea] at i4 i5 ⊢
  exact Ar i4 i5 ret
 rw [if_neg h3,beq_false_of_ne h3,af]
 by_cases h16:k0.kind=16
 ·rw [if_pos ⟨trivial,.inr (.inr (.inr (.inr h16)))⟩,h16,show ((16:Int)==16)=true from rfl,al,afu hk ht]
  unfold DA
  rw [if_neg (by simp [h0]),d0,if_pos ⟨h15,h16⟩]
 ·rw [beq_false_of_ne h16,af,if_neg (fun h=>by omega)];rfl
end Go.Proofs.YtgajalidbabccaaGreatDoor
namespace Go.Proofs.YtgajalidbabccaaGreatDoor
open Go PI
set_option linter.unusedVariables false
set_option linter.unusedSimpArgs false
set_option maxRecDepth 20000
variable {S:Type} {k:Nat}
end Go.Proofs.YtgajalidbabccaaGreatDoor
namespace Go.Proofs.YtgajalidbabccaaGreatDoor
open Go PI
set_option linter.unusedVariables false
set_option linter.unusedSimpArgs false
set_option maxRecDepth 20000
variable {S:Type} {k:Nat}
theorem V3 {line a y:Tm} {sys:List (Br Tm)} (h:eb line a sys= .ok y):y.kind=15:=by
 unfold eb at h
 obtain ⟨_,_,h⟩:=ae h
 obtain ⟨_,_,h⟩:=ae h
 injection h with h;subst h;rfl
end Go.Proofs.YtgajalidbabccaaGreatDoor
namespace Go.Proofs.YtgajalidbabccaaGreatDoor
open Go PI
set_option linter.unusedVariables false
set_option linter.unusedSimpArgs false
set_option maxRecDepth 20000
variable {S:Type} {k:Nat}
structure ElimP (k:Nat) (t:Tm) (f b line:Tm) (l:List (Br Tm)) (y:Tm):Prop where
 so:cA [(i8 t).kids.getD 0 ar,(i8 t).kids.getD 1 ar,a7 (i8 t).sys]=0
 fill:dp ((i8 t).kids.getD 0 ar) ((i8 t).kids.getD 1 ar) (i8 t).sys= .ok f
 up:aD 0 1 (t.kids.getD 0 ar)= .ok b
 plug:gk 0 b f= .ok line
 brs:HQ t.kind b (zd t) (i8 t).sys= .ok l
 so2:cA [line,yz t.kind (t.kids.getD 0 ar) (zd t) ((i8 t).kids.getD 1 ar),a7 l]=0
 comp:eb line (yz t.kind (t.kids.getD 0 ar) (zd t) ((i8 t).kids.getD 1 ar)) l= .ok y
 fy:bQ y=0
 ff:Fm f
 fb:Fm b
 fl:Fm line
 fa:Fm (yz t.kind (t.kids.getD 0 ar) (zd t) ((i8 t).kids.getD 1 ar))
 fw:Fm (a7 l)
 bs:l.map (·.face)=(i8 t).sys.map (·.face)
 yin:In k y
end Go.Proofs.YtgajalidbabccaaGreatDoor
namespace Go.Proofs.YtgajalidbabccaaGreatDoor
open Go PI
set_option linter.unusedVariables false
set_option linter.unusedSimpArgs false
set_option maxRecDepth 20000
variable {S:Type} {k:Nat}
section
variable {t g b a:Tm}
theorem Zi (fg:Fm g) (hg:g.kind=16): ∀ {l l':List (Br Tm)},(∀b∈l,b.kids=[ak b]∧Fm (ak b)∧RX true b.face)→ez (bN g) l= .ok l'→eD 50000 l'∧l'.length=l.length:=by
 intro l
 induction l with
 |nil=>intro l' _ h;rw [ez] at h;injection h with h;subst h;exact ⟨nn _,rfl⟩
 |cons x l ih=>
  intro l' hx h
  rw [ez] at h
  obtain ⟨u,g1,h⟩:=ae h
  obtain ⟨m,g2,h⟩:=ae h
  injection h with h;subst h
  obtain ⟨i1,i2⟩:=ih (fun b hb=>hx b (by simp [hb])) g2
  obtain ⟨q1,q2,q3⟩:=hx x (by simp)
  have:=E5 (u:=u) (.inl (dA (by omega) (yF fg hg) g1)) q2
  exact ⟨nj (kj q3) this.1 this.2 i1,by rw [List.length_cons,List.length_cons,i2]⟩
theorem Zk (hk:F3 k) (ft:Fm t) (fb:Fm b): ∀ {l l':List (Br Tm)},(∀b∈l,b.kids=[ak b,k1 b]∧Fm (ak b)∧Fm (k1 b)∧RX true b.face)→eO b t.sys l= .ok l'→eD 500000 l'∧l'.length=l.length:=by
 intro l
 induction l with
 |nil=>intro l' _ h;rw [eO] at h;injection h with h;subst h;exact ⟨nn _,rfl⟩
 |cons x l ih=>
  intro l' hx h
  rw [eO] at h
  obtain ⟨f,g1,h⟩:=ae h
  obtain ⟨w,g2,h⟩:=ae h
  obtain ⟨m,g3,h⟩:=ae h
  injection h with h;subst h
  obtain ⟨i1,i2⟩:=ih (fun b hb=>hx b (by simp [hb])) g3
  obtain ⟨q1,q2,q3,q4⟩:=hx x (by simp)
  have ff:=dA (by omega) q3 g1
  obtain ⟨so,fw',hfe⟩:=kn g2
  have hwx:=Au hk ft
  have fw:Fm w:=⟨(tw hk q2 fb (ky (oF q2.ok fb.ok hwx.1 so).2.2) hfe).1.1,fw'⟩
  have q9:=oE (kd:=9) (by omega) (n:=20000) (ks:=[f]) (fun x hx=>by simp at hx;subst hx;exact ⟨ff.sm,by have:=ff.dep;omega⟩) (by simp)
  have q6:=oE (kd:=6) (by omega) (n:=80001) (ks:=[aw 9 [f],w]) (fun x hx=>by
   simp at hx
   rcases hx with rfl|rfl
   ·refine ⟨q9.1, ?_⟩
    unfold aw;rw [ai,ax,ax,aM];have:=ff.dep;omega
   ·exact ⟨fw.sm.mono (by omega),by have:=fw.dep;omega⟩) (by simp)
  exact ⟨nj (kj q4) (q6.1.mono (by omega)) (by have:=q6.2;omega) i1,by rw [List.length_cons,List.length_cons,i2]⟩
end
theorem acu (hk:F3 k) {t y:Tm} (ft:Fm t) (h15:t.kind=15) (h16:(t.kids.getD 0 ar).kind=16) (h:oa t= .ok y):In k y∧y.kind=17:=by
 obtain ⟨g,b,hkd⟩:=kw (gN ft h15 (n:=2) rfl)
 obtain ⟨d0,d1⟩:=eX hkd
 have fg:Fm g:=ft.kid (by rw [hkd];simp)
 have fb:Fm b:=ft.kid (by rw [hkd];simp)
 obtain ⟨sy,syl⟩:=ft.sy h15
 rw [d0] at h16
 obtain ⟨hx,hl,a,hak,fa⟩:=fg.gl h16
 unfold oa at h
 rw [d0,d1] at h
 obtain ⟨l1,e1,h⟩:=ae h
 obtain ⟨l2,e2,h⟩:=ae h
 injection h with h;subst h
 obtain ⟨b1,n1⟩:=Zi fg h16 sy e1
 obtain ⟨b2,n2⟩:=Zk hk ft fb hx e2
 exact ⟨Kd hk ft fg h16 (by rw [hak];rfl) fa fb b1 (by omega) b2 (by omega),rfl⟩
end Go.Proofs.YtgajalidbabccaaGreatDoor
namespace Go.Proofs.YtgajalidbabccaaGreatDoor
open Go PI
set_option linter.unusedVariables false
set_option linter.unusedSimpArgs false
set_option maxRecDepth 20000
variable {S:Type} {k:Nat}
section
variable {k0 a:Tm} {sys:List (Br Tm)}
end
end Go.Proofs.YtgajalidbabccaaGreatDoor
namespace Go.Proofs.YtgajalidbabccaaGreatDoor
open Go PI
set_option linter.unusedVariables false
set_option linter.unusedSimpArgs false
set_option maxRecDepth 100000
variable {S:Type} {k:Nat}
theorem ahG {S:Type} (q:Nat) (ret:Bool→Option S):xU (q+400) ret=ret true:=by kernel_rfl
theorem afY (hk:F3 k) (ret:Bool→Option S):xU k ret=ret true:=by
 have hk:4294968296≤k:=hk
 obtain ⟨q,rfl⟩: ∃q,k=q+400:=⟨k-400,by omega⟩
 exact ahG q ret
theorem afx (hk:F3 k) {t:Tm} (ht:In k t) (ret:Bool→Option S): ∃c,xS k t ret=ret c∧(c=false→ao t≤100):=by
 simp only [xS,Pq,aJ]
 obtain ⟨w,h1,h2,h3,h4⟩:=afT t ht.1 100 (by unfold Mo;omega) (fun r1=>ret (decide (r1>100))) ht.2.1
 exact ⟨_,h1,fun h=>by
  have:=of_decide_eq_false h
  have:=h4 (by omega)
  omega⟩
theorem Qa {t:Tm} (h:t.kids.length=3): ∃a b c,t.kids=[a,b,c]:=by
 match hk:t.kids,h with
 |[a,b,c],_=>exact ⟨a,b,c,rfl⟩
structure HcK (t k0 a:Tm):Prop where
 kids:t.kids=[k0,a]
 fk:Fm k0
 fa:Fm a
 za:ao a≤150
 sy: ∀b∈t.sys,b.kids=[ak b]∧Fm (ak b)∧RX true b.face
 zs: ∀b∈t.sys,ao (ak b)≤150
 syl:t.sys.length≤19000
theorem CJ {t:Tm} (ft:Fm t) (h15:t.kind=15) (hz:ao t≤150): ∃k0 a,HcK t k0 a:=by
 obtain ⟨k0,a,hkd⟩:=kw (gN ft h15 (n:=2) rfl)
 obtain ⟨sy,syl⟩:=ft.sy h15
 refine ⟨k0,a,hkd,ft.kid (by rw [hkd];simp),ft.kid (by rw [hkd];simp),Nat.le_trans (Oi (t:=t) (by rw [hkd];simp)) hz,sy,fun b hb=> ?_, ?_⟩
 ·have h1:=oD hb
  have h2:ak b∈b.kids:=by rw [(sy b hb).1];simp
  have h3:=ir h2
  have h4:=ju t
  omega
 ·have h4:=ju t
  have: ∀ {l:List (Br Tm)},(∀b∈l,b.kids=[ak b])→l.length≤aA l:=by
   intro l
   induction l with
   |nil=>intro _;simp
   |cons b l ih=>
    intro hl
    have:=ih fun b hb=>hl b (by simp [hb])
    have hb:=hl b (by simp)
    obtain ⟨f,ks⟩:=b
    have hb:ks=[ak ⟨f,ks⟩]:=hb
    rw [aA,d4,hb,au,au,List.length_cons];have:=km (ak ⟨f,ks⟩);omega
  have:=this (l:=t.sys) fun b hb=>(sy b hb).1
  omega
theorem Y6 (hk4:F4 k) {t y:Tm} (ft:Fm t) (h15:t.kind=15) (hz:ao t≤150) (hc:(t.kids.getD 0 ar).kind=4∨(t.kids.getD 0 ar).kind=7∨(t.kids.getD 0 ar).kind=11∨(t.kids.getD 0 ar).kind=3∨(t.kids.getD 0 ar).kind=16) (h:nG t= .ok y):In k y∧0<y.kind:=by
 have hk:=hk4.f3
 obtain ⟨k0,a,hx⟩:=CJ ft h15 hz
 obtain ⟨d0,d1⟩:=eX hx.kids
 have fk:=hx.fk
 have ea:Tm.mk a.kind a.n a.name a.r a.kids a.sys=a:=by cases a;rfl
 have fa':Fm (Tm.mk a.kind a.n a.name a.r a.kids a.sys):=by rw [ea];exact hx.fa
 unfold nG at h
 rw [d0,d1] at h
 rw [d0] at hc
 dsimp only at h
 split at h
 ·rename_i h4
  obtain ⟨p,b,hb⟩:=kw (gN fk h4 (n:=2) rfl)
  obtain ⟨w1,i1,i2,i3,i4,i5⟩:=NR (S:=Unit) hk hb (fk.kid (by rw [hb];simp)) fa' hx.sy (by have:=hx.syl;omega) (fun _=>none)
  rw [ea,←(eX hb).2] at i4
  obtain ⟨rfl,_⟩:=i4 y h
  exact ⟨i3,show (0:Int)<5 by omega⟩
 split at h
 ·rename_i _ h7
  obtain ⟨p,b,hb⟩:=kw (gN fk h7 (n:=2) rfl)
  obtain ⟨w1,i1,i2,i3,i4,i5⟩:=NS (S:=Unit) hk4 hb (fk.kid (by rw [hb];simp)) (fk.kid (by rw [hb];simp)) fa' hx.sy (by have:=hx.syl;omega) (fun _=>none)
  rw [(eX hb).2,(eX hb).1] at h
  rw [ea] at i4
  obtain ⟨rfl,_⟩:=i4 y h
  exact ⟨i3,show (0:Int)<8 by omega⟩
 split at h
 ·rename_i _ _ h11
  obtain ⟨p,l,r,hb⟩:=Qa (gN fk h11 (n:=3) rfl)
  obtain ⟨w1,i1,i2,i3,i4,i5⟩:=NQ (S:=Unit) hk hb (fk.kid (by rw [hb];simp)) (fk.kid (by rw [hb];simp)) (fk.kid (by rw [hb];simp)) fa' hx.sy hx.syl (fun _=>none)
  rw [hb] at h
  rw [ea] at i4
  obtain ⟨rfl,_⟩:=i4 y h
  exact ⟨i3,show (0:Int)<12 by omega⟩
 split at h
 ·obtain ⟨w1,i1,i2,i3,i4,i5⟩:=NT (S:=Unit) hk fa' (by rw [ea];exact hx.za) hx.sy hx.zs (by have:=hx.syl;omega) (fun _=>none)
  rw [ea] at i4 i3
  obtain ⟨rfl,_⟩:=i4 y h
  exact ⟨i3,show (0:Int)<16 by omega⟩
 ·obtain ⟨h1,h2⟩:=acu hk ft h15 (by rw [d0];omega) h
  exact ⟨h1,by omega⟩
end Go.Proofs.YtgajalidbabccaaGreatDoor
namespace Go.Proofs.YtgajalidbabccaaGreatDoor
open Go PI
set_option linter.unusedVariables false
set_option linter.unusedSimpArgs false
set_option maxRecDepth 20000
section
variable {kd:Int}
theorem adn {V D:Int} {t:Tm} (h:ay true V D t=true):D≤24:=by
 cases t
 rw [ay] at h
 simp only [Bool.true_and,Bool.and_eq_true,Bool.not_eq_true',decide_eq_false_iff_not] at h
 omega
theorem Gz (t:Tm): ∀ {V D:Int},ay true V D t=true→ay false V D t=true:=by
 induction t using dr with
 |h kd n nm r ks sys ih1 ih2=>
  intro V D h
  have hk: ∀ {l:List Tm} {i:Nat},(∀x∈l,∀ {V D:Int},ay true V D x=true→ay false V D x=true)→aY true V D kd i l=true→aY false V D kd i l=true:=by
   intro l
   induction l<;>grind [aY]
  rw [ay,Bool.and_eq_true,Bool.and_eq_true,Bool.and_eq_true] at h ⊢
  refine ⟨rfl,h.2.1,hk ih1 h.2.2.1, ?_⟩
  have:=h.2.2.2
  rw [jD,List.all_eq_true] at this ⊢
  intro b hb
  have:=this b hb
  rw [List.all_eq_true] at this ⊢
  exact fun x hx=>ih2 b hb x hx (this x hx)
theorem agE (t:Tm): ∀ {V D:Int},ay false V D t=true→D+aG t≤24→ay true V D t=true:=by
 induction t using dr with
 |h kd n nm r ks sys ih1 ih2=>
  intro V D h hb
  rw [aG] at hb
  have p1:=Bn kd ks 0
  have hk: ∀ {l:List Tm} {i:Nat},(∀x∈l,∀ {V D:Int},ay false V D x=true→D+aG x≤24→ay true V D x=true)→aY false V D kd i l=true→D+bO kd i l≤24→aY true V D kd i l=true:=by
   intro l
   induction l with
   |nil=>intro i _ _ _;rw [aY]
   |cons t l ih=>
    intro i h ha hb
    rw [aY,Bool.and_eq_true] at ha ⊢
    rw [bO] at hb
    exact ⟨h t (by simp) ha.1 (by omega),ih (fun x hx=>h x (by simp [hx])) ha.2 (by omega)⟩
  have hs: ∀ {l:List (Br Tm)},(∀b∈l,∀x∈b.kids,∀ {V D:Int},ay false V D x=true→D+aG x≤24→ay true V D x=true)→aI false V D kd l=true→D+aZ l≤24→aI true V D kd l=true:=by
   intro l
   induction l with
   |nil=>intro _ _ _;rw [aI]
   |cons b l ih=>
    intro h ha hb
    obtain ⟨f,ks'⟩:=b
    rw [aI,cX,Bool.and_eq_true] at ha ⊢
    rw [aZ,d8] at hb
    have hm: ∀ {l:List Tm},(∀x∈l,∀ {V D:Int},ay false V D x=true→D+aG x≤24→ay true V D x=true)→a8 false V D kd l=true→D+bP l≤24→a8 true V D kd l=true:=by
     intro l
     induction l with
     |nil=>intro _ _ _;rw [a8]
     |cons t l ih=>
      intro h ha hb
      rw [a8,Bool.and_eq_true] at ha ⊢
      rw [bP] at hb
      have:=eA kd
      exact ⟨h t (by simp) ha.1 (by omega),ih (fun x hx=>h x (by simp [hx])) ha.2 (by omega)⟩
    have hb':D+max (bP ks') (aZ l)≤24:=hb
    exact ⟨hm (l:=ks') (h ⟨f,ks'⟩ (by simp)) ha.1 (by omega),ih (fun b hb=>h b (by simp [hb])) ha.2 (by omega)⟩
  rw [ay,Bool.and_eq_true,Bool.and_eq_true,Bool.and_eq_true] at h ⊢
  exact ⟨by rw [decide_eq_false (by omega)];rfl,h.2.1,hk ih1 h.2.2.1 (by omega),hs ih2 h.2.2.2 (by omega)⟩
end
end Go.Proofs.YtgajalidbabccaaGreatDoor
namespace Go.Proofs.YtgajalidbabccaaGreatDoor
open Go PI
set_option linter.unusedVariables false
set_option linter.unusedSimpArgs false
set_option maxRecDepth 20000
abbrev iH (V D:Int) (t:Tm):Prop:=ay false V D t=true
theorem QI {vb db:Int} (hvb:0≤vb) (hdb:0≤db) {v d V D:Int} {t t':Tm} (hd:0≤d) (hV:0≤V) (hf:Fm t) (h:iH V D t) (hl:bh vb db v d t= .ok t'):iH (V+vb) (D+db) t':=
 uX hvb hdb t hd hV hf.ok hf.rows h (fun e=>by cases e) hl
theorem ahF {V D a b:Int} {t t':Tm} (hf:Fm t) (ha:0≤a∧a≤1000000000) (hb:0≤b) (hV:0≤V) (hs:iH V D t) (h:aD a b t= .ok t'):iH (V+a) (D+b) t':=by
 obtain ⟨m,h1,h2⟩:=ae h
 have fm:=ja (by omega) hf h1
 have s2:=QI (Int.le_refl 0) hb (Int.le_refl 0) (by omega) fm (QI ha.1 (by decide) (Int.le_refl 0) hV hf hs h1) h2
 rw [Int.add_zero,Int.add_zero] at s2;exact s2
abbrev vr (n V D:Int) (u x:Tm):Prop:= ∀ {v d:Int} {o:Tm},0≤v→v+ai x≤1000→0≤d→iH (V+v+1) (D+d) x→df n u v d x= .ok o→iH (V+v) (D+d) o
section
variable {n V D kd:Int} {u:Tm}
theorem Qr {W v:Int} (h:0≤W):a6 W v=W+v:=by unfold a6;rw [if_neg (by omega)]
theorem adw (hV:0≤V): ∀ {l l':List Tm} {i:Nat} {v d:Int},(∀x∈l,vr n V D u x)→0≤v→v+ax l+1≤1000→0≤d→aY false (V+v+1) (D+d) kd i l=true→ei n u v d kd i l= .ok l'→aY false (V+v) (D+d) kd i l'=true∧l'.length=l.length:=by
 intro l
 induction l with
 |nil=>intro l' i v d _ _ _ _ _ h;rw [ei] at h;injection h with h;subst h;exact ⟨by rw [aY],rfl⟩
 |cons t l ih=>
  intro l' i v d h hv hb hd ha hl
  rw [ei] at hl
  obtain ⟨t',e1,hl⟩:=ae hl
  obtain ⟨m,e2,hl⟩:=ae hl
  injection hl with hl;subst hl
  rw [aY,Bool.and_eq_true] at ha ⊢
  rw [ax] at hb
  have b1:=kJ kd i;have b2:=eo kd i
  obtain ⟨q1,q2⟩:=ih (fun x hx=>h x (by simp [hx])) hv (by omega) hd ha.2 e2
  refine ⟨⟨?_,q1⟩,by rw [List.length_cons,List.length_cons,q2]⟩
  have:=ha.1
  rw [Qr (by omega),show V+v+1+be kd i=V+(v+be kd i)+1 by omega,show D+d+aR kd i=D+(d+aR kd i) by omega] at this
  rw [Qr (by omega),show V+v+be kd i=V+(v+be kd i) by omega,show D+d+aR kd i=D+(d+aR kd i) by omega]
  exact h t (by simp) (by omega) (by omega) (by omega) this e1
theorem adx: ∀ {l l':List Tm} {v d:Int},(∀x∈l,vr n V D u x)→0≤v→v+ax l+1≤1000→0≤d→a8 false (V+v+1) (D+d) kd l=true→eB n u v d kd l= .ok l'→a8 false (V+v) (D+d) kd l'=true∧l'.length=l.length:=by
 intro l
 induction l with
 |nil=>intro l' v d _ _ _ _ _ h;rw [eB] at h;injection h with h;subst h;exact ⟨by rw [a8],rfl⟩
 |cons t l ih=>
  intro l' v d h hv hb hd ha hl
  rw [eB] at hl
  obtain ⟨t',e1,hl⟩:=ae hl
  obtain ⟨m,e2,hl⟩:=ae hl
  injection hl with hl;subst hl
  rw [a8,Bool.and_eq_true] at ha ⊢
  rw [ax] at hb
  have b2:=eA kd
  obtain ⟨q1,q2⟩:=ih (fun x hx=>h x (by simp [hx])) hv (by omega) hd ha.2 e2
  refine ⟨⟨?_,q1⟩,by rw [List.length_cons,List.length_cons,q2]⟩
  have:=ha.1
  rw [show D+d+aH kd=D+(d+aH kd) by omega] at this ⊢
  exact h t (by simp) hv (by omega) (by omega) this e1
theorem ady: ∀ {l l':List (Br Tm)} {v d:Int},(∀b∈l,∀x∈b.kids,vr n V D u x)→0≤v→v+aM l+1≤1000→0≤d→aI false (V+v+1) (D+d) kd l=true→dz n u v d kd l= .ok l'→aI false (V+v) (D+d) kd l'=true∧l'.length=l.length∧l'.all (aQ kd (D+d))=l.all (aQ kd (D+d)):=by
 intro l
 induction l with
 |nil=>intro l' v d _ _ _ _ _ h;rw [dz] at h;injection h with h;subst h;exact ⟨by rw [aI],rfl,rfl⟩
 |cons b l ih=>
  intro l' v d h hv hb hd ha hl
  rw [dz] at hl
  obtain ⟨b',e1,hl⟩:=ae hl
  obtain ⟨m,e2,hl⟩:=ae hl
  injection hl with hl;subst hl
  obtain ⟨f,ks⟩:=b
  rw [qK] at e1
  obtain ⟨ks',e3,e1⟩:=ae e1
  injection e1 with e1;subst e1
  rw [aI,cX,Bool.and_eq_true] at ha ⊢
  rw [aM,eL] at hb
  obtain ⟨q1,q2,q3⟩:=ih (fun b hb=>h b (by simp [hb])) hv (by omega) hd ha.2 e2
  obtain ⟨p1,p2⟩:=adx (kd:=kd) (l:=ks) (h ⟨f,ks⟩ (by simp)) hv (by omega) hd ha.1 e3
  refine ⟨⟨p1,q1⟩,by rw [List.length_cons,List.length_cons,q2], ?_⟩
  have:aQ kd (D+d) ⟨f,ks'⟩=aQ kd (D+d) ⟨f,ks⟩:=by unfold aQ;simp only [p2]
  rw [List.all_cons,List.all_cons,this,q3]
theorem ahD (hn:0≤n) (hnV:n≤V) (hD:0≤D) (hf:Fm u) (hu:iH V D u) (t:Tm):vr n V D u t:=by
 induction t using dr with
 |h kd m nm r ks sys ih1 ih2=>
  intro v d o hv hb hd ha h
  rw [df] at h
  rw [ai] at hb
  split at h
  ·exact ahF hf (by omega) hd (by omega) hu h
  ·rename_i hc
   obtain ⟨ks',e2,h⟩:=ae h
   obtain ⟨sys',e3,h⟩:=ae h
   injection h with h;subst h
   unfold iH at ha ⊢
   rw [ay] at ha ⊢
   simp only [Bool.false_and,Bool.not_false,Bool.true_and,Bool.and_eq_true] at ha ⊢
   obtain ⟨q2,q3,q4⟩:=ha
   obtain ⟨k1,k2⟩:=adw (by omega) ih1 hv (by omega) hd q3 e2
   obtain ⟨s1,s2,s3⟩:=ady ih2 hv (by omega) hd q4 e3
   refine ⟨?_,k1,s1⟩
   unfold ca at q2 ⊢
   simp only [Bool.and_eq_true,decide_eq_true_eq] at q2 ⊢
   rw [k2,s2,s3]
   obtain ⟨⟨a1,a2,a3,a4⟩,a5⟩:=q2
   refine ⟨⟨a1, ?_,a3,a4⟩, ?_⟩
   ·by_cases c:kd=1
    ·exact .inl c
    ·exact .inr (by rw [if_neg (fun h=>c h.1)];exact a2.resolve_left c)
   ·by_cases c1:kd=1
    ·rw [if_pos c1] at a5 ⊢
     simp only [Bool.and_eq_true,decide_eq_true_eq] at a5 ⊢
     have: ¬m=n+v:=fun e=>hc ⟨c1,e⟩
     refine ⟨a5.1, ?_,.inr ?_⟩
     ·split<;>omega
     ·split<;>omega
    ·rw [if_neg c1] at a5 ⊢;exact a5
end
theorem ahE {V D:Int} (hV:0≤V) (hD:0≤D) {t u o:Tm} (ht:Fm t) (hf:Fm u) (hu:iH V D u) (hs:iH (V+1) D t) (h:gk 0 t u= .ok o):iH V D o:=by
 unfold gk at h
 split at h
 ·cases h
 obtain ⟨o',h1,h⟩:=ae h
 split at h
 ·cases h
 injection h with h;subst h
 have:=(ew ht.2).1
 have:=ahD (Int.le_refl 0) hV hD hf hu t (Int.le_refl 0) (by omega) (Int.le_refl 0) (by rw [Int.add_zero,Int.add_zero];exact hs) h1
 rw [Int.add_zero,Int.add_zero] at this;exact this
end Go.Proofs.YtgajalidbabccaaGreatDoor
namespace Go.Proofs.YtgajalidbabccaaGreatDoor
open Go PI
set_option linter.unusedVariables false
set_option linter.unusedSimpArgs false
set_option maxRecDepth 20000
section
variable {n kd:Int} {u:Tm}
abbrev vm (n:Int) (u x:Tm):Prop:= ∀ {v d:Int} {o:Tm},df n u v d x= .ok o→aG o≤aG x+aG u
theorem VA: ∀ {l l':List Tm} {i:Nat} {v d:Int},(∀x∈l,vm n u x)→ei n u v d kd i l= .ok l'→bO kd i l'≤bO kd i l+aG u:=by
 intro l
 induction l with
 |nil=>intro l' i v d _ h;rw [ei] at h;injection h with h;subst h;rw [bO];have:=eF u;omega
 |cons t l ih=>
  intro l' i v d h hl
  rw [ei] at hl
  obtain ⟨t',e1,hl⟩:=ae hl
  obtain ⟨m,e2,hl⟩:=ae hl
  injection hl with hl;subst hl
  rw [bO,bO]
  have:=h t (by simp) e1
  have:=ih (fun x hx=>h x (by simp [hx])) e2
  omega
theorem VB: ∀ {l l':List Tm} {v d:Int},(∀x∈l,vm n u x)→eB n u v d kd l= .ok l'→bP l'≤bP l+aG u:=by
 intro l
 induction l with
 |nil=>intro l' v d _ h;rw [eB] at h;injection h with h;subst h;rw [bP];have:=eF u;omega
 |cons t l ih=>
  intro l' v d h hl
  rw [eB] at hl
  obtain ⟨t',e1,hl⟩:=ae hl
  obtain ⟨m,e2,hl⟩:=ae hl
  injection hl with hl;subst hl
  rw [bP,bP]
  have:=h t (by simp) e1
  have:=ih (fun x hx=>h x (by simp [hx])) e2
  omega
theorem VC: ∀ {l l':List (Br Tm)} {v d:Int},(∀b∈l,∀x∈b.kids,vm n u x)→dz n u v d kd l= .ok l'→aZ l'≤aZ l+aG u:=by
 intro l
 induction l with
 |nil=>intro l' v d _ h;rw [dz] at h;injection h with h;subst h;rw [aZ];have:=eF u;omega
 |cons b l ih=>
  intro l' v d h hl
  rw [dz] at hl
  obtain ⟨b',e1,hl⟩:=ae hl
  obtain ⟨m,e2,hl⟩:=ae hl
  injection hl with hl;subst hl
  obtain ⟨f,ks⟩:=b
  rw [qK] at e1
  obtain ⟨ks',e3,e1⟩:=ae e1
  injection e1 with e1;subst e1
  rw [aZ,aZ,d8,d8]
  have:=VB (l:=ks) (h ⟨f,ks⟩ (by simp)) e3
  have:=ih (fun b hb=>h b (by simp [hb])) e2
  have e:(Br.mk f ks).kids=ks:=rfl
  rw [e] at*
  omega
theorem Vi (t:Tm):vm n u t:=by
 induction t using dr with
 |h kd m nm r ks sys ih1 ih2=>
  intro v d o h
  rw [df] at h
  split at h
  ·rw [iJ h]
   have:=eF (.mk kd m nm r ks sys)
   omega
  ·obtain ⟨ks',e2,h⟩:=ae h
   obtain ⟨sys',e3,h⟩:=ae h
   injection h with h;subst h
   rw [aG,aG]
   have:=VA ih1 e2
   have:=VC ih2 e3
   omega
theorem Vj {t u o:Tm} (h:gk 0 t u= .ok o):aG o≤aG t+aG u:=by
 unfold gk at h
 split at h
 ·cases h
 obtain ⟨o',h1,h⟩:=ae h
 split at h
 ·cases h
 injection h with h;subst h
 exact Vi t h1
end
section
variable {f g:Int→List Cl→Except Int (List Cl)} {kd:Int}
theorem VI: ∀ {l l':List Tm} {i:Nat} {n:Int},(∀x∈l,∀ {n:Int} {t':Tm},bj f g n x= .ok t'→aG t'≤aG x)→bU f g n kd i l= .ok l'→bO kd i l'≤bO kd i l:=by
 intro l
 induction l with
 |nil=>intro l' i n _ h;rw [bU] at h;injection h with h;subst h;exact Int.le_refl _
 |cons t l ih=>
  intro l' i n h hl
  rw [bU] at hl
  obtain ⟨t',e1,hl⟩:=ae hl
  obtain ⟨m,e2,hl⟩:=ae hl
  injection hl with hl;subst hl
  rw [bO,bO]
  have:=h t (by simp) e1
  have:=ih (fun x hx=>h x (by simp [hx])) e2
  omega
theorem VJ: ∀ {l l':List Tm} {n:Int},(∀x∈l,∀ {n:Int} {t':Tm},bj f g n x= .ok t'→aG t'≤aG x)→bZ f g n kd l= .ok l'→bP l'≤bP l:=by
 intro l
 induction l with
 |nil=>intro l' n _ h;rw [bZ] at h;injection h with h;subst h;exact Int.le_refl _
 |cons t l ih=>
  intro l' n h hl
  rw [bZ] at hl
  obtain ⟨t',e1,hl⟩:=ae hl
  obtain ⟨m,e2,hl⟩:=ae hl
  injection hl with hl;subst hl
  rw [bP,bP]
  have:=h t (by simp) e1
  have:=ih (fun x hx=>h x (by simp [hx])) e2
  omega
theorem VK: ∀ {l l':List (Br Tm)} {n:Int},(∀b∈l,∀x∈b.kids,∀ {n:Int} {t':Tm},bj f g n x= .ok t'→aG t'≤aG x)→bm f g n kd l= .ok l'→aZ l'≤aZ l:=by
 intro l
 induction l with
 |nil=>intro l' n _ h;rw [bm] at h;injection h with h;subst h;exact Int.le_refl _
 |cons b l ih=>
  intro l' n h hl
  rw [bm] at hl
  obtain ⟨o,e1,hl⟩:=ae hl
  obtain ⟨m,e2,hl⟩:=ae hl
  injection hl with hl;subst hl
  obtain ⟨r,ks⟩:=b
  rw [fH] at e1
  obtain ⟨r',e3,e1⟩:=ae e1
  have hi:=ih (fun b hb=>h b (by simp [hb])) e2
  split at e1
  ·injection e1 with e1;subst e1
   rw [aZ]
   show aZ m≤_
   omega
  ·obtain ⟨ks',e4,e1⟩:=ae e1
   injection e1 with e1;subst e1
   have:=VJ (kd:=kd) (l:=ks) (h ⟨r,ks⟩ (by simp)) e4
   show aZ (⟨r',ks'⟩::m)≤_
   rw [aZ,aZ,d8,d8]
   omega
theorem Vm (t:Tm): ∀ {n:Int} {t':Tm},bj f g n t= .ok t'→aG t'≤aG t:=by
 induction t using dr with
 |h kd m nm r ks sys ih1 ih2=>
  intro n t' h
  rw [bj] at h
  obtain ⟨r1,e1,h⟩:=ae h
  obtain ⟨ks1,e2,h⟩:=ae h
  obtain ⟨sys1,e3,h⟩:=ae h
  injection h with h;subst h
  rw [aG,aG]
  have:=VI ih1 e2
  have:=VK ih2 e3
  omega
end
theorem Vl {i:Int} {r:List Cl} {t t':Tm} (h:di i r t= .ok t'):aG t'≤aG t:=by
 unfold di at h
 obtain ⟨s,e1,h⟩:=ae h
 exact Vm t h
end Go.Proofs.YtgajalidbabccaaGreatDoor
namespace Go.Proofs.YtgajalidbabccaaGreatDoor
open Go PI
set_option linter.unusedVariables false
set_option linter.unusedSimpArgs false
set_option maxRecDepth 20000
mutual
def cG:Tm→Int
 | .mk kd _ _ _ ks sys=>dH kd 0 ks+d9 sys
def dH (kd:Int) (i:Nat):List Tm→Int
 |[]=>0
 |t::l=>aR kd i+cG t+dH kd (i+1) l
def d9:List (Br Tm)→Int
 |[]=>0
 |b::l=>wP b+d9 l
def wP:Br Tm→Int
 | .mk _ ks=>eT ks
def eT:List Tm→Int
 |[]=>0
 |t::l=>1+cG t+eT l
end
theorem sG (t:Tm):aG t≤cG t∧cG t+1≤(ao t:Int)*2:=by
 induction t using dr with
 |h kd n nm r ks sys ih1 ih2=>
  have hk: ∀ {l:List Tm} {i:Nat},(∀x∈l,aG x≤cG x∧cG x+1≤(ao x:Int)*2)→0≤dH kd i l∧bO kd i l≤dH kd i l∧dH kd i l≤(au l:Int)*2:=by
   intro l
   induction l with
   |nil=>intro i _;rw [dH,bO,au];omega
   |cons t l ih=>
    intro i h
    rw [dH,bO,au]
    have h1:=h t (by simp)
    have h2:=ih (i:=i+1) fun x hx=>h x (by simp [hx])
    have h3:=eo kd i
    have h4:=eF t
    omega
  have hm: ∀ {l:List Tm},(∀x∈l,aG x≤cG x∧cG x+1≤(ao x:Int)*2)→0≤eT l∧bP l≤eT l∧eT l≤(au l:Int)*2:=by
   intro l
   induction l with
   |nil=>intro _;rw [eT,bP,au];omega
   |cons t l ih=>
    intro h
    rw [eT,bP,au]
    have h1:=h t (by simp)
    have h2:=ih fun x hx=>h x (by simp [hx])
    have h4:=eF t
    omega
  have hs: ∀ {l:List (Br Tm)},(∀b∈l,∀x∈b.kids,aG x≤cG x∧cG x+1≤(ao x:Int)*2)→0≤d9 l∧aZ l≤d9 l∧d9 l≤(aA l:Int)*2:=by
   intro l
   induction l with
   |nil=>intro _;rw [d9,aZ,aA];omega
   |cons b l ih=>
    intro h
    obtain ⟨f,ks⟩:=b
    have h1:=hm (h ⟨f,ks⟩ (by simp))
    have h2:=ih fun b hb=>h b (by simp [hb])
    rw [d9,aZ,aA,wP,d8,d4]
    have e:(Br.mk f ks).kids=ks:=rfl
    rw [e] at h1
    omega
  have h1:=hk (i:=0) ih1
  have h2:=hs ih2
  rw [aG,cG,ao]
  omega
theorem lM (t:Tm):0≤cG t:=by have:=sG t;have:=eF t;omega
theorem Bv (kd:Int): ∀ (l:List Tm) (i:Nat),0≤dH kd i l:=by
 intro l
 induction l with
 |nil=>intro i;rw [dH];omega
 |cons t l ih=>intro i;rw [dH];have:=ih (i+1);have:=lM t;have:=eo kd i;omega
theorem Bw: ∀ (l:List Tm),0≤eT l:=by
 intro l
 induction l with
 |nil=>rw [eT];omega
 |cons t l ih=>rw [eT];have:=lM t;omega
theorem Bx: ∀ (l:List (Br Tm)),0≤d9 l:=by
 intro l
 induction l with
 |nil=>rw [d9];omega
 |cons b l ih=>obtain ⟨f,ks⟩:=b;rw [d9,wP];have:=Bw ks;omega
theorem Vw {kd:Int} {x y:Tm}: ∀ {l:List Tm} {i:Nat},(∃p q:List Tm,l=p++q∧x∈p∧y∈q)→cG x+cG y≤dH kd i l:=by
 have j8: ∀ {l:List Tm} {i:Nat} {z:Tm},z∈l→cG z≤dH kd i l:=by
  intro l
  induction l with
  |nil=>intro i z h;cases h
  |cons t l ih=>
   intro i z h
   rw [dH]
   have:=eo kd i;have:=lM t;have:=Bv kd l (i+1)
   rcases List.mem_cons.1 h with rfl|h
   ·omega
   ·have:=ih (i:=i+1) h;omega
 intro l
 induction l with
 |nil=>rintro i ⟨p,q,h,hx,_⟩;rw [List.nil_eq_append_iff] at h;rw [h.1] at hx;cases hx
 |cons t l ih=>
  rintro i ⟨p,q,h,hx,hy⟩
  rw [dH]
  have:=eo kd i;have:=lM t;have:=Bv kd l (i+1)
  cases p with
  |nil=>cases hx
  |cons u p=>
   rw [List.cons_append] at h
   injection h with h1 h2
   subst h1
   rcases List.mem_cons.1 hx with rfl|hx
   ·have:=j8 (i:=i+1) (show y∈l by rw [h2];exact List.mem_append_right _ hy);omega
   ·have:=ih (i:=i+1) ⟨p,q,h2,hx,hy⟩;omega
end Go.Proofs.YtgajalidbabccaaGreatDoor
namespace Go.Proofs.YtgajalidbabccaaGreatDoor
open Go PI
set_option linter.unusedVariables false
set_option linter.unusedSimpArgs false
set_option maxRecDepth 20000
variable {S:Type} {k:Nat}
theorem af9 {V D:Int} {t:Tm} (h:aF V D t):D≤24:=adn h
theorem rk {V D:Int} {t:Tm} (h:aF V D t):aY true V D t.kind 0 t.kids=true∧aI true V D t.kind t.sys=true∧ca V D t=true:=by
 obtain ⟨kd,n,nm,r,ks,sys⟩:=t
 unfold aF at h
 rw [ay,Bool.and_eq_true,Bool.and_eq_true,Bool.and_eq_true] at h
 exact ⟨h.2.2.1,h.2.2.2,h.2.1⟩
theorem N8 {V D:Int} {x:Tm} (h:aF V D x) (hk:x.kind=15):x.sys.all (aQ 15 D)=true∧aI true V D 15 x.sys=true∧ ∀ {u a:Tm},x.kids=[u,a]→aF V D u∧aF V D a:=by
 obtain ⟨h1,h2,h3⟩:=rk h
 rw [hk] at h1 h2
 refine ⟨?_,h2,fun hx=> ?_⟩
 ·obtain ⟨kd,n,nm,r,ks,sys⟩:=x
  have hk:kd=15:=hk
  subst hk
  have:(_&&(sys.all (aQ 15 D)&&_))=true:=h3
  simp only [Bool.and_eq_true] at this
  exact this.2.1
 ·rw [hx,all2] at h1
  have e1:be 15 ((0:Nat):Int)=0:=rfl
  have e2:aR 15 ((0:Nat):Int)=0:=rfl
  have e3:be 15 ((0+1:Nat):Int)=0:=rfl
  have e4:aR 15 ((0+1:Nat):Int)=0:=rfl
  rw [e1,e2,e3,e4,cO,Int.add_zero] at h1
  exact h1
theorem EY {V D:Int} {sys:List (Br Tm)} (hD:D≤24) (h1:sys.all (aQ 15 D)=true) (h2:aI true V D 15 sys=true):aF V D (a7 sys):=by
 have h3:aF V D (.mk 3 0 ByteArray.empty [] [] []):=eR (kd:=3) (l:=[]) (by decide) rfl hD (by rw [aY])
 exact mJ hD h3 h3 h1 h2
theorem Ve: ∀ {sys l:List (Br Tm)},(∀b∈sys,b.kids=[ak b])→gK sys= .ok l→aZ l≤aZ sys:=by
 intro sys
 induction sys with
 |nil=>intro l _ h;rw [gK] at h;injection h with h;subst h;exact Int.le_refl _
 |cons b r ih=>
  intro l hk h
  rw [gK] at h
  obtain ⟨f,q0,h⟩:=ae h
  obtain ⟨u,q1,h⟩:=ae h
  obtain ⟨m,q2,h⟩:=ae h
  injection h with h;subst h
  have hb:=hk b (by simp)
  have h1:=ih (fun b hb=>hk b (by simp [hb])) q2
  have h2:aG u≤aG (ak b):=by
   unfold g6 at q1
   obtain ⟨m,e1,q1⟩:=ae q1
   have:=Vl q1
   rw [wN _ e1] at this;exact this
  obtain ⟨g,ks⟩:=b
  have hb:ks=[ak ⟨g,ks⟩]:=hb
  rw [aZ,aZ,d8,d8,show bP ks=max (1+aG (ak ⟨g,ks⟩)) 0 from by rw [hb,bP,bP];rfl,bP,bP]
  omega
theorem U_: ∀ {a b:List (Br Tm)},aZ (a++b)=max (aZ a) (aZ b):=by
 intro a
 induction a with
 |nil=>intro b;rw [List.nil_append,aZ];have:=Va b;omega
 |cons x a ih=>intro b;rw [List.cons_append,aZ,aZ,ih];omega
theorem Vd {t a x:Tm} {sys:List (Br Tm)} (hk: ∀b∈sys,b.kids=[ak b]) (h:dp t a sys= .ok x):aG x≤max (aG t) (max (1+aG a) (aZ sys)):=by
 unfold dp at h
 obtain ⟨t',e1,h⟩:=ae h
 obtain ⟨a',e2,h⟩:=ae h
 obtain ⟨l,e3,h⟩:=ae h
 obtain ⟨a2,e4,h⟩:=ae h
 injection h with h;subst h
 have:=Ve hk e3
 have p1:=eF t;have p2:=eF a
 have e0:aR 15 ((0:Nat):Int)=0:=rfl
 have e5:aR 15 ((0+1:Nat):Int)=0:=rfl
 rw [aG,bO,bO,bO,U_,aZ,aZ,d8,bP,bP,iJ e1,iJ e2,iJ e4,e0,e5]
 omega
theorem V6 {line a y:Tm} {sys:List (Br Tm)} (h:eb line a sys= .ok y):y.sys.map (·.face)=sys.map (·.face):=by
 unfold eb at h
 obtain ⟨l1,e1,h⟩:=ae h
 obtain ⟨l,e2,h⟩:=ae h
 injection h with h;subst h
 have key: ∀ {sys l:List (Br Tm)},gG line sys= .ok l→l.map (·.face)=sys.map (·.face):=by
  intro sys
  induction sys with
  |nil=>intro l h;rw [gG] at h;injection h with h;subst h;rfl
  |cons b r ih=>
   intro l h
   rw [gG] at h
   obtain ⟨u,q1,h⟩:=ae h
   obtain ⟨m,q2,h⟩:=ae h
   injection h with h;subst h
   rw [List.map_cons,List.map_cons,ih q2]
 exact key e2
end Go.Proofs.YtgajalidbabccaaGreatDoor
namespace Go.Proofs.YtgajalidbabccaaGreatDoor
open Go PI
set_option linter.unusedVariables false
set_option linter.unusedSimpArgs false
set_option maxRecDepth 20000
variable {S:Type} {k:Nat}
end Go.Proofs.YtgajalidbabccaaGreatDoor
namespace Go.Proofs.YtgajalidbabccaaGreatDoor
open Go PI
set_option linter.unusedVariables false
set_option linter.unusedSimpArgs false
set_option maxRecDepth 20000
variable {S:Type} {k:Nat}
theorem kL {kd D:Int} {f:List Cl} {ks:List Tm} (h:(ks.length:Int)=dN kd) (h1:cW f=true) (h2:b_ f D=true):aQ kd D ⟨f,ks⟩=true:=by
 show (decide ((ks.length:Int)=dN kd)&&(cW f&&b_ f D))=true
 rw [h1,h2,decide_eq_true h];rfl
theorem EV {V D kd:Int}: ∀ {l:List (Br Tm)},(∀y∈l,aQ kd D y=true∧a8 true V D kd y.kids=true)→l.all (aQ kd D)=true∧aI true V D kd l=true:=by
 intro l
 induction l with
 |nil=>intro _;exact ⟨rfl,by rw [aI]⟩
 |cons x l ih=>
  intro h
  obtain ⟨q1,q2⟩:=h x (by simp)
  obtain ⟨i1,i2⟩:=ih fun y hy=>h y (by simp [hy])
  obtain ⟨f,ks⟩:=x
  refine ⟨by rw [List.all_cons,Bool.and_eq_true];exact ⟨q1,i1⟩, ?_⟩
  rw [aI,Bool.and_eq_true,cX];exact ⟨q2,i2⟩
theorem EW {V D kd:Int} {F:Br Tm→Except Int (Br Tm)}: ∀ {l l':List (Br Tm)},(∀x∈l,∀b,F x= .ok b→aQ kd D b=true∧a8 true V D kd b.kids=true)→cQ F l= .ok l'→l'.all (aQ kd D)=true∧aI true V D kd l'=true:=by
 intro l
 induction l with
 |nil=>intro l' _ h;rw [cQ] at h;injection h with h;subst h;exact ⟨rfl,by rw [aI]⟩
 |cons x l ih=>
  intro l' hF h
  rw [cQ] at h
  obtain ⟨b,h1,h⟩:=ae h
  obtain ⟨m,h2,h⟩:=ae h
  injection h with h;subst h
  obtain ⟨q1,q2⟩:=hF x (by simp) b h1
  obtain ⟨i1,i2⟩:=ih (fun x hx=>hF x (by simp [hx])) h2
  obtain ⟨f,ks⟩:=b
  refine ⟨by rw [List.all_cons,Bool.and_eq_true];exact ⟨q1,i1⟩, ?_⟩
  rw [aI,Bool.and_eq_true,cX];exact ⟨q2,i2⟩
theorem J8 {F:Br Tm→Except Int (Br Tm)}: ∀ {l l':List (Br Tm)},(∀x∈l,∀b,F x= .ok b→b.face=x.face)→cQ F l= .ok l'→l'.map (·.face)=l.map (·.face):=by
 intro l
 induction l with
 |nil=>intro l' _ h;rw [cQ] at h;injection h with h;subst h;rfl
 |cons x l ih=>
  intro l' hF h
  rw [cQ] at h
  obtain ⟨b,h1,h⟩:=ae h
  obtain ⟨m,h2,h⟩:=ae h
  injection h with h;subst h
  rw [List.map_cons,List.map_cons,hF x (by simp) b h1,ih (fun x hx=>hF x (by simp [hx])) h2]
theorem aco {F:Br Tm→Except Int (Br Tm)}: ∀ {l l':List (Br Tm)},cQ F l= .ok l'→l'.length=l.length:=by
 intro l
 induction l with
 |nil=>intro l' h;rw [cQ] at h;injection h with h;subst h;rfl
 |cons x l ih=>
  intro l' h
  rw [cQ] at h
  obtain ⟨b,h1,h⟩:=ae h
  obtain ⟨m,h2,h⟩:=ae h
  injection h with h;subst h
  rw [List.length_cons,List.length_cons,ih h2]
theorem vc {V D:Int}: ∀ {sys:List (Br Tm)},(∀b∈sys,b.kids=[ak b])→sys.all (aQ 15 D)=true→aI true V D 15 sys=true→ ∀x∈sys,cW x.face=true∧b_ x.face D=true∧aF V (D+1) (ak x):=by
 intro sys
 induction sys with
 |nil=>intro _ _ _ x hx;cases hx
 |cons b r ih=>
  intro hk h1 h2 x hx
  rw [List.all_cons,Bool.and_eq_true] at h1
  obtain ⟨k1,k2⟩:=IQ (hk b (by simp)) h2
  rcases List.mem_cons.1 hx with rfl|hx
  ·have:=h1.1
   unfold aQ at this
   simp only [Bool.and_eq_true] at this
   exact ⟨this.2.1,this.2.2,k1⟩
  ·exact ih (fun b hb=>hk b (by simp [hb])) h1.2 k2 x hx
theorem U8 {kd:Int}: ∀ {l:List Tm} {i:Nat} {x:Tm},x∈l→aG x≤bO kd i l:=by
 intro l
 induction l with
 |nil=>intro i x h;cases h
 |cons t l ih=>
  intro i x h
  rw [bO]
  have:=(eo kd i).1
  rcases List.mem_cons.1 h with rfl|h
  ·omega
  ·have:=ih (i:=i+1) h;omega
theorem oP {t x:Tm} (h:x∈t.kids):aG x≤aG t:=by
 obtain ⟨kd,n,nm,r,ks,sys⟩:=t
 have:=U8 (kd:=kd) (i:=0) h
 rw [aG];simp only [Tm.kids] at this;omega
theorem Bq (t:Tm):aZ t.sys≤aG t:=by
 obtain ⟨kd,n,nm,r,ks,sys⟩:=t
 rw [aG];simp only [Tm.sys];omega
theorem U9: ∀ {l:List Tm} {x:Tm},x∈l→1+aG x≤bP l:=by
 intro l
 induction l with
 |nil=>intro x h;cases h
 |cons t l ih=>
  intro x h
  rw [bP]
  rcases List.mem_cons.1 h with rfl|h
  ·omega
  ·have:=ih h;omega
theorem sA: ∀ {l:List (Br Tm)} {b:Br Tm} {x:Tm},b∈l→x∈b.kids→1+aG x≤aZ l:=by
 intro l
 induction l with
 |nil=>intro b x h;cases h
 |cons c l ih=>
  intro b x h hx
  rw [aZ]
  rcases List.mem_cons.1 h with rfl|h
  ·obtain ⟨f,ks⟩:=b
   have:=U9 (l:=ks) hx
   rw [d8];omega
  ·have:=ih h hx;omega
theorem oB {kd V D:Int} (h:kd=9∨kd=10) (hD:D≤24) {a:Tm} (ha:aF V D a):aF V D (aw kd [a]):=by
 have e1:be kd ((0:Nat):Int)=0:=by unfold be;rw [if_neg (by omega)]
 have e2:aR kd ((0:Nat):Int)=0:=by unfold aR;rw [if_neg (by omega)]
 refine eR (by omega) (by rcases h with rfl|rfl<;>rfl) hD (all1.2 ?_)
 rw [e1,e2,cO,Int.add_zero];exact ha
theorem mK {kd V D:Int} (h:kd=6∨kd=8) (hD:D≤24) {a b:Tm} (ha:aF V D a) (hb:aF V D b):aF V D (aw kd [a,b]):=by
 have e1:be kd ((0:Nat):Int)=0:=by unfold be;rw [if_neg (by omega)]
 have e2:aR kd ((0:Nat):Int)=0:=by unfold aR;rw [if_neg (by omega)]
 have e3:be kd ((0+1:Nat):Int)=0:=by unfold be;rw [if_neg (by omega)]
 have e4:aR kd ((0+1:Nat):Int)=0:=by unfold aR;rw [if_neg (by omega)]
 refine eR (by omega) (by rcases h with rfl|rfl<;>rfl) hD (all2.2 ⟨?_, ?_⟩)
 ·rw [e1,e2,cO,Int.add_zero];exact ha
 ·rw [e3,e4,cO,Int.add_zero];exact hb
theorem uY {kd V D:Int} (h:kd=16∨kd=17∨kd=18) (hD:D≤24) {a:Tm} {sys:List (Br Tm)} (ha:aF V D a) (hb:sys.all (aQ kd D)=true) (hs:aI true V D kd sys=true):aF V D (.mk kd 0 ByteArray.empty [] [a] sys):=by
 have e1:be kd ((0:Nat):Int)=0:=by unfold be;rw [if_neg (by omega)]
 have e2:aR kd ((0:Nat):Int)=0:=by unfold aR;rw [if_neg (by omega)]
 unfold aF
 rw [ay,hs,all1.2 (by rw [e1,e2,cO,Int.add_zero];exact ha)]
 have:ca V D (.mk kd 0 ByteArray.empty [] [a] sys)=true:=by
  rcases h with rfl|rfl|rfl
  ·show (true&&(sys.all (aQ 16 D)&&true))=true
   rw [hb];rfl
  ·show (true&&(sys.all (aQ 17 D)&&true))=true
   rw [hb];rfl
  ·show (true&&(sys.all (aQ 18 D)&&true))=true
   rw [hb];rfl
 rw [this,decide_eq_false (by omega)];rfl
theorem EX {V D:Int} {r:List Cl} {u lo hi:Tm} (hD:D≤24) (hr:cm r=true) (hl:b_ r D=true) (h1:aF V D u) (h2:aF V D lo) (h3:aF V D hi):aF V D (lr r u lo hi):=by
 have hk:aY true V D 13 0 [u,lo,hi]=true:=by
  have e1:be 13 ((0:Nat):Int)=0:=rfl
  have e2:aR 13 ((0:Nat):Int)=0:=rfl
  have e3:be 13 ((0+1:Nat):Int)=0:=rfl
  have e4:aR 13 ((0+1:Nat):Int)=0:=rfl
  have e5:be 13 ((0+1+1:Nat):Int)=0:=rfl
  have e6:aR 13 ((0+1+1:Nat):Int)=0:=rfl
  rw [all3,e1,e2,e3,e4,e5,e6,cO,Int.add_zero];exact ⟨h1,h2,h3⟩
 unfold aF
 rw [ay,aI,hk]
 have:ca V D (lr r u lo hi)=true:=by
  show (true&&(cm r&&b_ r D))=true
  rw [hr,hl];rfl
 rw [this,decide_eq_false (by omega)];rfl
theorem acj {D:Int} (hD:2≤D):b_ [⟨2,0⟩] D=true:=(j5 (gq ⟨⟨by decide,by decide⟩,by decide,by decide⟩)).2 (lits_one.2 fun j hj=>by
 rcases hj with hj|hj
 ·have:=(sF j).2.1.1 hj;omega
 ·exact absurd hj (vl _ _))
theorem allM1 {V D kd:Int} {t:Tm}:a8 true V D kd [t]=true↔aF V (D+aH kd) t:=by rw [a8,a8,Bool.and_true]
section
variable {V D:Int} {a y k0:Tm} {sys:List (Br Tm)}
theorem agc {p b:Tm} (hkd:k0.kids=[p,b]) (h4:k0.kind=4) (fa:Fm a) (sy: ∀b∈sys,b.kids=[ak b]∧Fm (ak b)∧RX true b.face) (hV:0≤V) (hD:0≤D∧D≤6) (s0:aF V D k0) (sa:aF V D a) (x1:sys.all (aQ 15 D)=true) (x2:aI true V D 15 sys=true)
  (ba:aG a≤4) (bs:aZ sys≤4) (h:lv b a sys= .ok y):aF V D y∧y.kind=5∧ ∃z,y.kids=[z]∧z.kind=15∧z.sys.map (·.face)=sys.map (·.face):=by
 unfold lv at h
 obtain ⟨a',e1,h⟩:=ae h
 obtain ⟨l,e2,h⟩:=ae h
 injection h with h;subst h
 obtain ⟨q1,_,_⟩:=rk s0
 rw [h4,hkd,all2] at q1
 have w1:be 4 ((0+1:Nat):Int)=1:=rfl
 have w2:aR 4 ((0+1:Nat):Int)=0:=rfl
 rw [w1,w2,kx hV,Int.add_zero] at q1
 have ua:=c8 fa (a:=1) (b:=0) (by omega) (by omega) hV sa (by omega) e1
 rw [Int.add_zero] at ua
 have hin:=vc (fun b hb=>(sy b hb).1) x1 x2
 obtain ⟨l1,l2⟩:=EW (V:=V+1) (D:=D) (kd:=15) (fun x hx b hb=>by
  unfold lu at hb
  obtain ⟨u,g1,hb⟩:=ae hb
  injection hb with hb;subst hb
  obtain ⟨r1,r2,r3⟩:=hin x hx
  have:=sA (b:=x) (x:=ak x) hx (by rw [(sy x hx).1];simp)
  have uu:=c8 (sy x hx).2.1 (a:=1) (b:=0) (by omega) (by omega) hV r3 (by omega) g1
  rw [Int.add_zero] at uu
  exact ⟨kL rfl r1 r2,allM1.2 (mK (.inl rfl) (by have:aH 15=1:=rfl;omega) uu (gX (by decide) (by omega) (by have:aH 15=1:=rfl;omega)))⟩) e2
 refine ⟨eR (kd:=5) (by decide) rfl (by omega) (all1.2 ?_),rfl,_,rfl,rfl, ?_⟩
 ·show aF (a6 V 1) (D+0) _
  rw [kx hV,Int.add_zero]
  exact mJ (by omega) q1.2 (mK (.inl rfl) (by omega) ua (gX (by decide) (by omega) (by omega))) l1 l2
 ·exact J8 (fun x _ b hb=>by
   unfold lu at hb
   obtain ⟨u,g1,hb⟩:=ae hb
   injection hb with hb;subst hb;rfl) e2
theorem Bp {kd:Int} (h:kd=9∨kd=10) (x:Tm):aG (aw kd [x])=aG x:=by
 have e2:aR kd ((0:Nat):Int)=0:=by unfold aR;rw [if_neg (by omega)]
 unfold aw
 rw [aG,bO,bO,aZ,e2]
 have:=eF x;omega
theorem Vh {kd:Int} (h:kd=9∨kd=10): ∀ {sys:List (Br Tm)},(∀b∈sys,b.kids=[ak b])→aZ (parts kd sys)=aZ sys:=by
 intro sys
 induction sys with
 |nil=>intro _;rfl
 |cons x l ih=>
  intro hk
  have hx:=hk x (by simp)
  show aZ (⟨x.face,[aw kd [ak x]]⟩::parts kd l)=_
  rw [aZ,aZ,ih fun b hb=>hk b (by simp [hb]),d8,bP,bP,Bp h]
  obtain ⟨f,ks⟩:=x
  have hx:ks=[ak ⟨f,ks⟩]:=hx
  rw [d8,show bP ks=max (1+aG (ak ⟨f,ks⟩)) 0 from by rw [hx,bP,bP];rfl]
theorem Oa {kd:Int} (h:kd=9∨kd=10) (hD:0≤D∧D≤6) (sy: ∀b∈sys,b.kids=[ak b]) (x1:sys.all (aQ 15 D)=true) (x2:aI true V D 15 sys=true):(parts kd sys).all (aQ 15 D)=true∧aI true V D 15 (parts kd sys)=true:=by
 have hin:=vc sy x1 x2
 refine EV fun z hz=> ?_
 obtain ⟨x,hx,rfl⟩:=List.mem_map.1 hz
 obtain ⟨r1,r2,r3⟩:=hin x hx
 exact ⟨kL rfl r1 r2,allM1.2 (oB h (by have:aH 15=1:=rfl;omega) r3)⟩
theorem KB (kd:Int) (sys:List (Br Tm)):(parts kd sys).map (·.face)=sys.map (·.face):=by unfold parts;rw [List.map_map];rfl
theorem agf (hk:F3 k) {p b:Tm} (hkd:k0.kids=[p,b]) (h7:k0.kind=7) (f0:Fm p) (f1:Fm b) (fa:Fm a) (sy: ∀b∈sys,b.kids=[ak b]∧Fm (ak b)∧RX true b.face) (syl:sys.length≤20000) (hV:0≤V) (hD:0≤D∧D≤6) (s0:aF V D k0) (sa:aF V D a) (x1:sys.all (aQ 15 D)=true) (x2:aI true V D 15 sys=true)
  (bp:aG p≤4) (bb:aG b≤4) (ba:aG b+aG a≤4) (bs:aZ sys≤4) (h:rl p b a sys= .ok y):aF V D y∧y.kind=8∧ ∃z w,y.kids=[z,w]∧z.kind=15∧z.sys.map (·.face)=sys.map (·.face)∧w.kind=15∧w.sys.map (·.face)=sys.map (·.face):=by
 have pb:=eF b
 have pa:=eF a
 have syk: ∀b∈sys,b.kids=[ak b]:=fun b hb=>(sy b hb).1
 unfold rl at h
 obtain ⟨f,e1,h⟩:=ae h
 obtain ⟨b',e2,h⟩:=ae h
 obtain ⟨line,e3,h⟩:=ae h
 obtain ⟨w,e4,h⟩:=ae h
 injection h with h;subst h
 obtain ⟨q1,_,_⟩:=rk s0
 rw [h7,hkd,all2] at q1
 have w1:be 7 ((0+1:Nat):Int)=1:=rfl
 have w2:aR 7 ((0+1:Nat):Int)=0:=rfl
 have w3:be 7 ((0:Nat):Int)=0:=rfl
 have w4:aR 7 ((0:Nat):Int)=0:=rfl
 rw [w1,w2,w3,w4,kx hV,cO,Int.add_zero] at q1
 have p9:=zl hk (kd:=9) (by omega) sy syl
 have p10:=zl hk (kd:=10) (by omega) sy syl
 have i9:In k (aw 9 [a]):=(uZ (kd:=9) (by omega) (.inl fa)).1.isIn hk (by omega)
 have i10:In k (aw 10 [a]):=(uZ (kd:=10) (by omega) (.inl fa)).1.isIn hk (by omega)
 obtain ⟨so,ff,hfe⟩:=kn e1
 obtain ⟨c1,c2,c3⟩:=oF f0.ok i9.1 p9.1 so
 have fF:Fm f:=⟨(tw hk c1 c2 (ky c3) hfe).1.1,ff⟩
 obtain ⟨a1,a2⟩:=Oa (V:=V) (kd:=9) (.inl rfl) hD syk x1 x2
 obtain ⟨b1,b2⟩:=Oa (V:=V) (kd:=10) (.inr rfl) hD syk x1 x2
 have bp9:=Vh (kd:=9) (.inl rfl) syk
 have sf:=N_ c1 c2 (by omega) hV q1.1 (oB (.inl rfl) (by omega) sa) (EY (by omega) a1 a2) (ky c3) (by omega) (by rw [Bp (.inl rfl)];omega) (by rw [bp9];omega) hfe
 have sb:=c8 f1 (a:=0) (b:=1) (by omega) (by omega) (by omega) q1.2 (by omega) e2
 rw [Int.add_zero] at sb
 have fb:=dA (by omega) f1 e2
 have fl:=KG (by omega) fb fF e3
 have wl:=ahE hV (by omega) fb fF (Gz f sf) (Gz b' sb) e3
 have bl:aG line≤8:=by
  have h1:=Vj e3
  have h2:=iJ e2
  have h3:=Vd (fun b hb=>by
   obtain ⟨x,hx,rfl⟩:=List.mem_map.1 hb;rfl) hfe
  rw [bp9,Bp (.inl rfl)] at h3
  omega
 have sl:aF V (D+1) line:=agE line wl (by omega)
 obtain ⟨so2,fw,hc⟩:=kn e4
 obtain ⟨d1,d2,d3⟩:=oF fl.ok i10.1 p10.1 so2
 have sw:=af1 d1 (by omega) hV sl (oB (.inr rfl) (by omega) sa) (EY (by omega) b1 b2) (ky d3) bl hc
 refine ⟨mK (.inr rfl) (by omega) (mJ (by omega) q1.1 (oB (.inl rfl) (by omega) sa) a1 a2) sw,rfl,_,_,rfl,rfl,KB 9 sys,V3 hc,(V6 hc).trans (KB 10 sys)⟩
theorem agb {p l r:Tm} (hkd:k0.kids=[p,l,r]) (h11:k0.kind=11) (fl:Fm l) (fr:Fm r) (fa:Fm a) (sy: ∀b∈sys,b.kids=[ak b]∧Fm (ak b)∧RX true b.face) (hV:0≤V) (hD:0≤D∧D≤6) (s0:aF V D k0) (sa:aF V D a) (x1:sys.all (aQ 15 D)=true) (x2:aI true V D 15 sys=true)
  (ba:aG a≤4) (bl:aG l≤4) (br:aG r≤4) (bs:aZ sys≤4) (h:qJ p l r a sys= .ok y):aF V D y∧y.kind=12∧ ∃z,y.kids=[z]∧z.kind=15∧z.sys.length=sys.length+2:=by
 unfold qJ at h
 obtain ⟨pa,e1,h⟩:=ae h
 obtain ⟨lo,e2,h⟩:=ae h
 obtain ⟨hi,e3,h⟩:=ae h
 obtain ⟨bs',e4,h⟩:=ae h
 obtain ⟨l2,e5,h⟩:=ae h
 obtain ⟨r2,e6,h⟩:=ae h
 injection h with h;subst h
 obtain ⟨q1,_,_⟩:=rk s0
 rw [h11,hkd,all3] at q1
 have w1:be 11 ((0:Nat):Int)=0:=rfl
 have w2:aR 11 ((0:Nat):Int)=1:=rfl
 have w3:be 11 ((0+1:Nat):Int)=0:=rfl
 have w4:aR 11 ((0+1:Nat):Int)=0:=rfl
 have w5:be 11 ((0+1+1:Nat):Int)=0:=rfl
 have w6:aR 11 ((0+1+1:Nat):Int)=0:=rfl
 rw [w1,w2,w3,w4,w5,w6,cO,Int.add_zero] at q1
 obtain ⟨sp,sl,sr⟩:=q1
 have m15:aH 15=1:=rfl
 have u1:=c8 fa (a:=0) (b:=1) (by omega) (by omega) hV sa (by omega) e1
 have u2:=c8 fl (a:=0) (b:=1) (by omega) (by omega) hV sl (by omega) e2
 have u3:=c8 fr (a:=0) (b:=1) (by omega) (by omega) hV sr (by omega) e3
 have u5:=c8 fl (a:=0) (b:=2) (by omega) (by omega) hV sl (by omega) e5
 have u6:=c8 fr (a:=0) (b:=2) (by omega) (by omega) hV sr (by omega) e6
 rw [Int.add_zero] at u1 u2 u3 u5 u6
 have hin:=vc (fun b hb=>(sy b hb).1) x1 x2
 obtain ⟨l1,l2'⟩:=EW (V:=V) (D:=D+1) (kd:=15) (fun x hx b hb=>by
  unfold ji at hb
  obtain ⟨f,g1,hb⟩:=ae hb
  obtain ⟨u,g2,hb⟩:=ae hb
  obtain ⟨lo',g3,hb⟩:=ae hb
  obtain ⟨hi',g4,hb⟩:=ae hb
  injection hb with hb;subst hb
  obtain ⟨r1,r2,r3⟩:=hin x hx
  obtain ⟨k1,k2,k3⟩:=sy x hx
  have:=sA (b:=x) (x:=ak x) hx (by rw [k1];simp)
  have hr:cL 0 1 x.face= .ok f:=by unfold cL;rw [if_neg (by decide)];exact g1
  have uu:=uX (Int.le_refl 0) (show (0:Int)≤1 by omega) (ak x) (v:=0) (d:=1) (V:=V) (D:=D+1) (by omega) hV k2.ok k2.rows r3 (fun _=>by omega) g2
  have v3:=c8 fl (a:=0) (b:=2) (by omega) (by omega) hV sl (by omega) g3
  have v4:=c8 fr (a:=0) (b:=2) (by omega) (by omega) hV sr (by omega) g4
  rw [Int.add_zero] at uu v3 v4
  refine ⟨kL rfl (qZ hr k3.1.2 r1) (zb k3.1 (by decide) (by decide) r2 hr),allM1.2 ?_⟩
  rw [m15,show D+1+1=D+2 by omega]
  rw [show D+1+1=D+2 by omega] at uu
  exact EX (by omega) (by decide) (acj (by omega)) uu v3 v4) e4
 have hend: ∀ {f:List Cl} {z:Tm},cW f=true→b_ f (D+1)=true→aF V (D+2) z→aQ 15 (D+1) ⟨f,[z]⟩=true∧a8 true V (D+1) 15 [z]=true:=fun h1 h2 h3=>⟨kL rfl h1 h2,allM1.2 (by rw [m15,show D+1+1=D+2 by omega];exact h3)⟩
 obtain ⟨t1,t2⟩:=hend (f:=[⟨0,1⟩]) (by decide) (I5 (by omega)) u5
 obtain ⟨t3,t4⟩:=hend (f:=[⟨1,0⟩]) (by decide) (y_ (by omega)) u6
 refine ⟨eR (kd:=12) (by decide) rfl (by omega) (all1.2 ?_),rfl,_,rfl,rfl, ?_⟩
 ·show aF (a6 V 0) (D+1) _
  rw [cO]
  refine mJ (by omega) sp (EX (by omega) (by decide) (y_ (by omega)) u1 u2 u3) ?_ ?_
  ·rw [List.all_append,List.all_append,l1,List.all_cons,List.all_nil,List.all_cons,List.all_nil,t1,t3];rfl
  ·have hap: ∀ {a b:List (Br Tm)},aI true V (D+1) 15 a=true→aI true V (D+1) 15 b=true→aI true V (D+1) 15 (a++b)=true:=fun {a b} ha hb=>by
    rw [jD] at ha hb ⊢
    rw [List.all_append,ha,hb];rfl
   refine hap (hap l2' ?_) ?_
   ·rw [aI,aI,cX,t2];rfl
   ·rw [aI,aI,cX,t4];rfl
 ·show (bs'++_++_).length=_
  rw [List.length_append,List.length_append,aco e4];rfl
end
end Go.Proofs.YtgajalidbabccaaGreatDoor
namespace Go.Proofs.YtgajalidbabccaaGreatDoor
open Go PI
set_option linter.unusedVariables false
set_option linter.unusedSimpArgs false
set_option maxRecDepth 20000
variable {S:Type} {k:Nat}
theorem EU {V D:Int} (hV:0≤V) (hD:D≤24) {x:Tm} (h:aF (V+1) D x):aF V D (aw 5 [x]):=by
 refine eR (kd:=5) (by decide) rfl hD (all1.2 ?_)
 show aF (a6 V 1) (D+0) _
 rw [kx hV,Int.add_zero];exact h
theorem ER {V D:Int} (hD:D≤24) {x:Tm} (h:aF V (D+1) x):aF V D (aw 12 [x]):=by
 refine eR (kd:=12) (by decide) rfl hD (all1.2 ?_)
 show aF (a6 V 0) (D+1) _
 rw [cO];exact h
theorem aci {D:Int} (hD:2≤D):b_ [⟨3,0⟩] D=true:=y9 (d:=2) (gq ⟨⟨by decide,by decide⟩,by decide,by decide⟩) (by decide) hD
theorem Oc {V D:Int} {r:List Cl} (hV:2≤V) (hD:D≤24) (hr:cm r=true) (hl:b_ r D=true):aF V D (zr r):=
 EX hD hr hl (oB (.inr rfl) hD (gX (by decide) (by omega) hD)) (gX (by decide) (by omega) hD) (oB (.inl rfl) hD (gX (by decide) (by omega) hD))
theorem af7 {V D:Int} (hV:0≤V) (hD:0≤D∧D≤20):aF V D nI:=by
 unfold nI nH
 refine mK (.inr rfl) (by omega) (EU hV (by omega) (gX (by decide) (by omega) (by omega))) (EU hV (by omega) (mK (.inr rfl) (by omega) (mK (.inr rfl) (by omega) (gX (by decide) (by omega) (by omega)) (ER (by omega) (gX (by decide) (by omega) (by omega)))) ?_))
 refine EU (by omega) (by omega) (ER (by omega) (mK (.inr rfl) (by omega) (Oc (by omega) (by omega) (by decide) (y_ (by omega))) (ER (by omega) (Oc (by omega) (by omega) (by decide) (aci (by omega))))))
section
variable {V D:Int} {a y:Tm} {sys:List (Br Tm)}
theorem agi (fa:Fm a) (za:ao a≤150) (sy: ∀b∈sys,b.kids=[ak b]∧Fm (ak b)∧RX true b.face) (zs: ∀b∈sys,ao (ak b)≤150) (hV:0≤V) (hD:0≤D∧D≤6) (sa:aF V D a) (x1:sys.all (aQ 15 D)=true) (x2:aI true V D 15 sys=true)
  (ba:aG a≤4) (bs:aZ sys≤4) (h:rx a sys= .ok y):aF V D y∧y.kind=16∧y.kids=[a]∧y.sys.map (·.face)=sys.map (·.face):=by
 unfold rx at h
 obtain ⟨l,e1,h⟩:=ae h
 injection h with h;subst h
 have hin:=vc (fun b hb=>(sy b hb).1) x1 x2
 have m16:aH 16=0:=rfl
 obtain ⟨l1,l2⟩:=EW (V:=V) (D:=D) (kd:=16) (fun x hx b hb=>by
  unfold iA at hb
  obtain ⟨e,g1,hb⟩:=ae hb
  obtain ⟨a',g2,hb⟩:=ae hb
  obtain ⟨q,g3,hb⟩:=ae hb
  injection hb with hb;subst hb
  obtain ⟨r1,r2,r3⟩:=hin x hx
  obtain ⟨k1,k2,k3⟩:=sy x hx
  have hb4:=sA (b:=x) (x:=ak x) hx (by rw [k1];simp)
  have se:=Od k2 hD.1 r3 g1
  have ua:=c8 fa (a:=0) (b:=1) (by omega) (by omega) hV sa (by omega) g2
  rw [Int.add_zero] at ua
  obtain ⟨so,fq,hq⟩:=kn g3
  have za':ao a'≤150:=((py fa za).up (by omega) g2).2.2.2
  have sq:=af3 (py k2 (zs x hx)) (py (dA (by omega) fa g2) za') (by omega) hV r3 ua (by omega) (by rw [iJ g2];omega) hq
  refine ⟨kL rfl r1 r2, ?_⟩
  rw [a8,a8,a8,Bool.and_true,Bool.and_eq_true,m16,Int.add_zero]
  exact ⟨se,ES (by decide) (De _ _ rfl) (by omega) sq (af7 hV (by omega))⟩) e1
 exact ⟨uY (.inl rfl) (by omega) sa l1 l2,rfl,rfl,J8 (fun x _ b hb=>by
  unfold iA at hb
  obtain ⟨e,g1,hb⟩:=ae hb
  obtain ⟨a',g2,hb⟩:=ae hb
  obtain ⟨q,g3,hb⟩:=ae hb
  injection hb with hb;subst hb;rfl) e1⟩
end
theorem af0 {V D:Int} {g:Tm} (h:aF V D g) (hk:g.kind=16) (hx: ∀b∈g.sys,b.kids=[ak b,k1 b]):(∀x∈g.sys,cW x.face=true∧b_ x.face D=true∧aF V D (ak x)∧aF V D (k1 x))∧ ∀ {a:Tm},g.kids=[a]→aF V D a:=by
 obtain ⟨h1,h2,h3⟩:=rk h
 rw [hk] at h1 h2
 refine ⟨?_,fun ha=> ?_⟩
 ·have hb:g.sys.all (aQ 16 D)=true:=by
   obtain ⟨kd,n,nm,r,ks,sys⟩:=g
   have hk:kd=16:=hk
   subst hk
   have:(_&&(sys.all (aQ 16 D)&&_))=true:=h3
   simp only [Bool.and_eq_true] at this
   exact this.2.1
  intro x hxm
  have b1:=List.all_eq_true.1 hb x hxm
  rw [jD] at h2
  have b2:=List.all_eq_true.1 h2 x hxm
  unfold aQ at b1
  simp only [Bool.and_eq_true] at b1
  have m16:aH 16=0:=rfl
  rw [hx x hxm,m16,Int.add_zero,List.all_cons,List.all_cons,Bool.and_eq_true,Bool.and_eq_true] at b2
  exact ⟨b1.2.1,b1.2.2,b2.1,b2.2.1⟩
 ·have e1:be 16 ((0:Nat):Int)=0:=rfl
  have e2:aR 16 ((0:Nat):Int)=0:=rfl
  rw [ha,all1,e1,e2,cO,Int.add_zero] at h1
  exact h1
theorem af4 {V D:Int} {g:Tm} (hin: ∀x∈g.sys,cW x.face=true∧b_ x.face D=true∧aF V D (ak x)∧aF V D (k1 x)):(bN g).all (aQ 18 D)=true∧aI true V D 18 (bN g)=true:=by
 have m18:aH 18=0:=rfl
 refine EV fun z hz=> ?_
 obtain ⟨x,hx,rfl⟩:=List.mem_map.1 hz
 obtain ⟨r1,r2,r3,r4⟩:=hin x hx
 exact ⟨kL rfl r1 r2,allM1.2 (by rw [m18,Int.add_zero];exact r4)⟩
theorem Vb {g:Tm} (hx: ∀b∈g.sys,b.kids=[ak b,k1 b]):aZ (bN g)≤aZ g.sys:=by
 unfold bN
 generalize g.sys=l at hx
 induction l with
 |nil=>exact Int.le_refl _
 |cons x l ih=>
  have h:=hx x (by simp)
  have:=ih fun b hb=>hx b (by simp [hb])
  rw [List.map_cons,aZ,aZ,d8,bP,bP]
  obtain ⟨f,ks⟩:=x
  have h:ks=[ak ⟨f,ks⟩,k1 ⟨f,ks⟩]:=h
  have e:bP ks=max (1+aG (ak ⟨f,ks⟩)) (max (1+aG (k1 ⟨f,ks⟩)) 0):=by rw [h,bP,bP,bP];rfl
  rw [d8,e]
  omega
theorem agh {V D:Int} (hD:D≤24):aF V D ej:=eR (kd:=3) (l:=[]) (by decide) rfl hD (by rw [aY])
theorem age {V D:Int} {u w:Tm} (hu: ∃a' es',u=cR a' es') (hs:aF V D u) (hw:aF V D w):aF V D (oC u [w]):=by
 obtain ⟨a',es',rfl⟩:=hu
 obtain ⟨h1,h2,h3⟩:=rk hs
 have:(true&&(es'.all (aQ 18 D)&&true))=true:=h3
 rw [Bool.true_and,Bool.and_true] at this
 exact uY (.inr (.inr rfl)) (af9 hs) hw this h2
theorem aga (hk:F3 k) {V D:Int} {t g b a y:Tm} (ft:Fm t) (h15:t.kind=15) (hkd:t.kids=[g,b]) (h16:g.kind=16) (ha:g.kids=[a]) (hV:0≤V) (hD:0≤D∧D≤6) (hs:aF V D t) (bt:aG t≤4) (h:oa t= .ok y):
  aF V D y∧y.kind=17∧(∃z,y.kids=[z]∧z.kind=15)∧y.sys.map (·.face)=g.sys.map (·.face):=by
 have fg:Fm g:=ft.kid (by rw [hkd];simp)
 have fb:Fm b:=ft.kid (by rw [hkd];simp)
 obtain ⟨d0,d1⟩:=eX hkd
 obtain ⟨sy,syl⟩:=ft.sy h15
 obtain ⟨gx,gl,_⟩:=fg.gl h16
 obtain ⟨x1,x2,x3⟩:=N8 hs h15
 obtain ⟨sg,sb⟩:=x3 hkd
 obtain ⟨gin,ga⟩:=af0 sg h16 fun b hb=>(gx b hb).1
 have sa:=ga ha
 obtain ⟨s1,s2⟩:=af4 gin
 have bg:=oP (t:=t) (x:=g) (by rw [hkd];simp)
 have bb:=oP (t:=t) (x:=b) (by rw [hkd];simp)
 have bsy:=Bq t
 have bgs:=Bq g
 have bes:=Vb fun b hb=>(gx b hb).1
 have m15:aH 15=1:=rfl
 have m17:aH 17=0:=rfl
 unfold oa at h
 rw [d0,d1] at h
 obtain ⟨l1,e1,h⟩:=ae h
 obtain ⟨l2,e2,h⟩:=ae h
 injection h with h;subst h
 have fe:=yF fg h16
 have su:aF V D (cR ej (bN g)):=uY (.inr (.inr rfl)) (by omega) (agh (by omega)) s1 s2
 have bu:aG (cR ej (bN g))≤4:=by
  have e2:aR 18 ((0:Nat):Int)=0:=rfl
  have e3:aG ej=0:=by rw [aG,bO,aZ];rfl
  rw [aG,bO,bO,e2,e3];omega
 have hin:=vc (fun b hb=>(sy b hb).1) x1 x2
 have k1': ∀ {r l:List (Br Tm)},(∀x∈r,x∈t.sys)→ez (bN g) r= .ok l→l.all (aQ 15 D)=true∧aI true V D 15 l=true:=by
  intro r
  induction r with
  |nil=>intro l _ h;rw [ez] at h;injection h with h;subst h;exact ⟨rfl,by rw [aI]⟩
  |cons x r ih=>
   intro l hr h
   rw [ez] at h
   obtain ⟨u,g1,h⟩:=ae h
   obtain ⟨m,g2,h⟩:=ae h
   injection h with h;subst h
   obtain ⟨i1,i2⟩:=ih (fun x hx=>hr x (by simp [hx])) g2
   obtain ⟨r1,r2,r3⟩:=hin x (hr x (by simp))
   have uu:=c8 fe (a:=0) (b:=1) (by omega) (by omega) hV su (by omega) g1
   rw [Int.add_zero] at uu
   rw [List.all_cons,Bool.and_eq_true,aI,Bool.and_eq_true,cX]
   exact ⟨⟨kL rfl r1 r2,i1⟩,allM1.2 (by rw [m15];exact age (ahp g1) uu r3),i2⟩
 obtain ⟨q1,q2⟩:=k1' (fun x hx=>hx) e1
 have swh:=EY (V:=V) (D:=D) (by omega) x1 x2
 have hwx:=Au hk ft
 have k2': ∀ {r l:List (Br Tm)},(∀x∈r,x∈g.sys)→eO b t.sys r= .ok l→l.all (aQ 15 D)=true∧aI true V D 15 l=true:=by
  intro r
  induction r with
  |nil=>intro l _ h;rw [eO] at h;injection h with h;subst h;exact ⟨rfl,by rw [aI]⟩
  |cons x r ih=>
   intro l hr h
   rw [eO] at h
   obtain ⟨f,g1,h⟩:=ae h
   obtain ⟨w,g2,h⟩:=ae h
   obtain ⟨m,g3,h⟩:=ae h
   injection h with h;subst h
   obtain ⟨i1,i2⟩:=ih (fun x hx=>hr x (by simp [hx])) g3
   have hxm:=hr x (by simp)
   obtain ⟨r1,r2,r3,r4⟩:=gin x hxm
   obtain ⟨y1,y2,y3,y4⟩:=gx x hxm
   have b1:=sA (b:=x) (x:=ak x) hxm (by rw [y1];simp)
   have b2:=sA (b:=x) (x:=k1 x) hxm (by rw [y1];simp)
   have uf:=c8 y3 (a:=0) (b:=1) (by omega) (by omega) hV r4 (by omega) g1
   rw [Int.add_zero] at uf
   obtain ⟨so,ff,hfe⟩:=kn g2
   obtain ⟨c1,c2,c3⟩:=oF y2.ok fb.ok hwx.1 so
   have sw:=N_ c1 c2 (by omega) hV r3 sb swh (ky c3) (by omega) (by omega) (by omega) hfe
   rw [List.all_cons,Bool.and_eq_true,aI,Bool.and_eq_true,cX]
   exact ⟨⟨kL rfl r1 r2,i1⟩,allM1.2 (by rw [m15];exact mK (.inl rfl) (by omega) (oB (.inl rfl) (by omega) uf) sw),i2⟩
 obtain ⟨q3,q4⟩:=k2' (fun x hx=>hx) e2
 have h15':aF V D (.mk 15 0 ByteArray.empty [] [a,cR b (bN g)] (l1++l2)):=by
  refine mJ (by omega) sa (uY (.inr (.inr rfl)) (by omega) sb s1 s2) (by rw [List.all_append,q1,q3];rfl) ?_
  rw [jD] at q2 q4 ⊢
  rw [List.all_append,q2,q4];rfl
 obtain ⟨t1,t2⟩:(ic b t.sys g.sys).all (aQ 17 D)=true∧aI true V D 17 (ic b t.sys g.sys)=true:=by
  refine EV fun z hz=> ?_
  obtain ⟨x,hx,rfl⟩:=List.mem_map.1 hz
  obtain ⟨r1,r2,r3,r4⟩:=gin x hx
  exact ⟨kL rfl r1 r2,allM1.2 (by rw [m17,Int.add_zero];exact mJ (by omega) r3 sb x1 x2)⟩
 have had:g.kids.getD 0 ar=a:=by rw [ha];rfl
 unfold qE
 rw [had]
 refine ⟨uY (.inr (.inl rfl)) (by omega) h15' t1 t2,rfl,⟨_,rfl,rfl⟩, ?_⟩
 show (ic b t.sys g.sys).map (·.face)=_
 unfold ic;rw [List.map_map];rfl
end Go.Proofs.YtgajalidbabccaaGreatDoor
namespace Go.Proofs.YtgajalidbabccaaGreatDoor
open Go PI
set_option linter.unusedVariables false
set_option linter.unusedSimpArgs false
set_option maxRecDepth 20000
variable {S:Type} {k:Nat}
section
variable {hd:Tm→(Int→Option S)→Option S} {t:Tm}
abbrev oK (hd:Tm→(Int→Option S)→Option S) (y:Tm):Prop:= ∀g,hd y g=g (cG y)
theorem GU (b:Br Tm) (l:List (Br Tm)):d9 (b::l)=eT b.kids+d9 l:=by cases b;rw [d9,wP]
end
theorem VE {kd D E:Int} (h:D≤E): ∀ {l:List (Br Tm)},aU l→l.all (aQ kd D)=true→l.all (aQ kd E)=true:=by
 intro l
 induction l with
 |nil=>intro _ _;rfl
 |cons b l ih=>
  intro ho hb
  obtain ⟨f,ks⟩:=b
  rw [aU,dP] at ho
  rw [List.all_cons,Bool.and_eq_true] at hb ⊢
  refine ⟨?_,ih ho.2 hb.2⟩
  have h1:=hb.1
  unfold aQ at h1 ⊢
  simp only [Bool.and_eq_true,decide_eq_true_eq] at h1 ⊢
  exact ⟨h1.1,h1.2.1,y9 ((kg ho.1.1.1).1 h1.2.1).1 h1.2.2 h⟩
theorem af6 (t:Tm):OkT t→ ∀ {V D E:Int},ay false V D t=true→D≤E→ay false (-1) E t=true:=by
 induction t using dr with
 |h kd n nm r ks sys ih1 ih2=>
  intro ht V D E h hDE
  rw [OkT] at ht
  obtain ⟨o1,o2,o3,o4,o5,o6,o7⟩:=ht.1
  have hk: ∀ {l:List Tm} {i:Nat},(∀x∈l,OkT x→ ∀ {V D E:Int},ay false V D x=true→D≤E→ay false (-1) E x=true)→aL l→aY false V D kd i l=true→aY false (-1) E kd i l=true:=by
   intro l
   induction l with
   |nil=>intro i _ _ _;rw [aY]
   |cons t l ih=>
    intro i h hl ha
    rw [aL] at hl
    rw [aY,Bool.and_eq_true] at ha ⊢
    rw [vi]
    exact ⟨h t (by simp) hl.1 ha.1 (by omega),ih (fun x hx=>h x (by simp [hx])) hl.2 ha.2⟩
  have hm: ∀ {l:List Tm},(∀x∈l,OkT x→ ∀ {V D E:Int},ay false V D x=true→D≤E→ay false (-1) E x=true)→aL l→a8 false V D kd l=true→a8 false (-1) E kd l=true:=by
   intro l
   induction l with
   |nil=>intro _ _ _;rw [a8]
   |cons t l ih=>
    intro h hl ha
    rw [aL] at hl
    rw [a8,Bool.and_eq_true] at ha ⊢
    exact ⟨h t (by simp) hl.1 ha.1 (by omega),ih (fun x hx=>h x (by simp [hx])) hl.2 ha.2⟩
  have hs: ∀ {l:List (Br Tm)},(∀b∈l,∀x∈b.kids,OkT x→ ∀ {V D E:Int},ay false V D x=true→D≤E→ay false (-1) E x=true)→aU l→aI false V D kd l=true→aI false (-1) E kd l=true:=by
   intro l
   induction l with
   |nil=>intro _ _ _;rw [aI]
   |cons b l ih=>
    intro h hl ha
    obtain ⟨f,ks'⟩:=b
    rw [aU,dP] at hl
    rw [aI,cX,Bool.and_eq_true] at ha ⊢
    exact ⟨hm (l:=ks') (h ⟨f,ks'⟩ (by simp)) hl.1.2 ha.1,ih (fun b hb=>h b (by simp [hb])) hl.2 ha.2⟩
  rw [ay,Bool.and_eq_true,Bool.and_eq_true,Bool.and_eq_true] at h ⊢
  refine ⟨rfl, ?_,hk ih1 ht.2.1 h.2.2.1,hs ih2 ht.2.2 h.2.2.2⟩
  have h2:=h.2.1
  unfold ca at h2 ⊢
  simp only [Bool.and_eq_true] at h2 ⊢
  refine ⟨h2.1, ?_⟩
  have h3:=h2.2
  split
  ·rename_i c
   rw [if_pos c] at h3
   simp only [Bool.and_eq_true,decide_eq_true_eq] at h3 ⊢
   exact ⟨h3.1,h3.2.1,.inl (by omega)⟩
  ·rename_i c
   rw [if_neg c] at h3
   split
   ·rename_i c
    rw [if_pos c] at h3;exact h3
   ·rename_i c
    rw [if_neg c] at h3
    split
    ·rename_i c
     rw [if_pos c,Bool.and_eq_true] at h3
     rw [Bool.and_eq_true]
     exact ⟨h3.1,y9 ((jr o4).1 h3.1) h3.2 hDE⟩
    ·rename_i c
     rw [if_neg c] at h3
     split
     ·rename_i c
      rw [if_pos c,Bool.and_eq_true] at h3
      rw [Bool.and_eq_true]
      exact ⟨h3.1,y9 ((kg o4).1 h3.1).1 h3.2 hDE⟩
     ·rename_i c
      rw [if_neg c,Bool.and_eq_true] at h3
      rw [Bool.and_eq_true]
      exact ⟨VE hDE ht.2.2 h3.1,h3.2⟩
theorem YJ {t:Tm} (h:In k t) {V D:Int} (hr:il t V D=0):Fm t:=by
 have hr':=hr
 unfold il at hr
 split at hr
 ·cases hr
 split at hr
 ·cases hr
 split at hr
 ·cases hr
 obtain ⟨_,_,hs⟩:=M_ hr'
 exact ⟨h.1,md (by omega) (by omega) (af6 t h.1 (Gz t hs) (uW hs))⟩
structure MayR (k:Nat) (x t:Tm) (V D:Int) (r:Tm×Bool×Int):Prop where
 Zu:In k r.1
 no:r.2.1=false→r.1=ar
 ok:r.2.1=true→r.2.2=0∧il r.1 V D=0∧r.1.kind=x.kind∧(x.kind=15→r.1.sys.map (·.face)=x.sys.map (·.face))
end Go.Proofs.YtgajalidbabccaaGreatDoor
namespace Go.Proofs.YtgajalidbabccaaGreatDoor
open Go PI
set_option linter.unusedVariables false
set_option linter.unusedSimpArgs false
set_option maxRecDepth 20000
variable {S:Type} {k:Nat}
section
variable {hd:Tm→(Int→Option S)→Option S} {t:Tm}
theorem aaA (hk:Fu k) (ret:Int→Option S) (rec1:Int→Int→Option S) {v:Int} {x:Br Tm} (hQ: ∀y∈x.kids,oK hd y) (hl:x.kids.length<1073741824):
  ∀ (r p:List Tm) (m:Nat) (a:Int),x.kids=p++r→r.length<m→0≤a→a+eT r<4611686018427387904→nN hd k ret rec1 t v x m a (p.length:Int)=rec1 (a+eT r) (IntKind.wrap .i64 (v+1)):=by
 intro r
 induction r with
 |nil=>
  intro p m a h hm ha hz
  obtain ⟨m,rfl,hm'⟩:=av hm
  simp only [nN,wg,cD h,af,eT]
  rw [Int.add_zero]
 |cons y r ih=>
  intro p m a h hm ha hz
  obtain ⟨m,rfl,hm'⟩:=av hm
  obtain ⟨e1,e2,e3,e4⟩:=aV h (by omega)
  have q2:=hQ y (by rw [h];simp)
  have:=lM y
  have:=Bw r
  rw [eT] at hz
  simp only [nN,wg,e1,al,e2,Option.bind_some,aJ,q2 _,e3,bJ (show-9223372036854775808≤1+cG y by omega) (by omega),bJ (show-9223372036854775808≤a+(1+cG y) by omega) (by omega)]
  rw [ih _ m _ e4 hm' (by omega) (by omega),eT,Int.add_assoc]
theorem aaz (hk:Fu k) (ret:Int→Option S) (hQ: ∀b∈t.sys,∀y∈b.kids,oK hd y) (ht:OkT t):
  ∀ (r p:List (Br Tm)) (m:Nat) (a:Int),t.sys=p++r→r.length<m→0≤a→a+d9 r<4611686018427387904→la hd k ret t m a (p.length:Int)=ret (a+d9 r):=by
 obtain ⟨o1,o2,o3,o4,o5,o6,o7⟩:=ht.no
 intro r
 induction r with
 |nil=>
  intro p m a h hm ha hz
  obtain ⟨m,rfl,hm'⟩:=av hm
  simp only [la,rN,cD h,af,d9]
  rw [Int.add_zero]
 |cons x r ih=>
  intro p m a h hm ha hz
  obtain ⟨m,rfl,hm'⟩:=av hm
  obtain ⟨e1,e2,e3,e4⟩:=aV h (by omega)
  have hx:x∈t.sys:=by rw [h];simp
  rw [GU] at hz
  have hp:=Bw x.kids
  have hp2:=Bx r
  have:=aaA (t:=t) hk ret (la hd k ret t m) (v:=(p.length:Int)) (hQ x hx) (ht.bi hx).1.2.2 x.kids [] k a rfl (by have:=(ht.bi hx).1.2.2;have:4294967296≤k:=hk;omega) ha (by omega)
  simp only [List.length_nil] at this
  simp only [la,rN,e1,al,e2,Option.bind_some]
  refine Eq.trans this ?_
  rw [e3,ih _ m _ e4 hm' (by omega) (by omega),GU,Int.add_assoc]
theorem aay (hk:Fu k) (ret:Int→Option S) (hQ: ∀y∈t.kids,oK hd y) (hQ': ∀b∈t.sys,∀y∈b.kids,oK hd y) (ht:OkT t):
  ∀ (r p:List Tm) (m:Nat) (a:Int),t.kids=p++r→r.length<m→0≤a→a+dH t.kind p.length r+d9 t.sys<4611686018427387904→qc hd k ret t m (p.length:Int) a=ret (a+dH t.kind p.length r+d9 t.sys):=by
 obtain ⟨o1,o2,o3,o4,o5,o6,o7⟩:=ht.no
 intro r
 induction r with
 |nil=>
  intro p m a h hm ha hz
  obtain ⟨m,rfl,hm'⟩:=av hm
  rw [dH] at hz
  simp only [qc,rM,cD h,af,dH]
  have hs:=aaz hk ret hQ' ht t.sys [] k a rfl (by have:4294967296≤k:=hk;omega) ha (by omega)
  simp only [List.length_nil] at hs
  refine Eq.trans hs ?_
  rw [Int.add_zero]
 |cons y r ih=>
  intro p m a h hm ha hz
  obtain ⟨m,rfl,hm'⟩:=av hm
  obtain ⟨e1,e2,e3,e4⟩:=aV h (by omega)
  have q2:=hQ y (by rw [h];simp)
  have:=lM y
  have hb:=eo t.kind p.length
  have hk':=Bv t.kind r (p.length+1)
  have hs:=Bx t.sys
  rw [dH] at hz
  have:=ih (p++[y]) m (a+(aR t.kind p.length+cG y)) e4 hm' (by omega) (by rw [List.length_append,List.length_singleton];omega)
  simp only [qc,rM,e1,al,e2,Option.bind_some,ap hk,js,aJ,q2 _,e3,bJ (show-9223372036854775808≤aR t.kind p.length+cG y by omega) (by omega),bJ (show-9223372036854775808≤a+(aR t.kind p.length+cG y) by omega) (by omega)]
  rw [this,dH,List.length_append,List.length_singleton]
  exact congrArg ret (by omega)
end
theorem afa (t:Tm):OkT t→ ∀ {k:Nat} (ret:Int→Option S),Fd k (ai t)→(ao t:Int)<1099511627776→g_ k t ret=ret (cG t):=by
 induction t using eS with
 |h t ih1 ih2=>
  intro ht k ret hk hdp
  obtain ⟨q,rfl,hq,hf⟩:=hk.pos' (dW t)
  obtain ⟨o1,o2,o3,o4,o5,o6,o7⟩:=ht.no
  have hz:=ju t
  have hQ: ∀y∈t.kids,oK (S:=S) (g_ q) y:=fun y hy g=>ih1 y hy (ht.ki hy) g (hf _ (dv hy)) (by have:=ir hy;omega)
  have hQ': ∀b∈t.sys,∀y∈b.kids,oK (S:=S) (g_ q) y:=fun b hb y hy g=>ih2 b hb y hy ((ht.bi hb).2 y hy) g (hf _ (dJ hb hy)) (by have:=oD hb;have:=ir hy;omega)
  have hbn:=(sG t).2
  have e:cG t=dH t.kind 0 t.kids+d9 t.sys:=by cases t;rw [cG];rfl
  have:=aay hq ret hQ hQ' ht t.kids [] q 0 rfl (by have:4294967296≤q:=hq;omega) (Int.le_refl 0) (by simp only [List.length_nil];omega)
  simp only [List.length_nil] at this
  simp only [g_,FP]
  refine Eq.trans this ?_
  rw [e,Int.zero_add]
end Go.Proofs.YtgajalidbabccaaGreatDoor
namespace Go.Proofs.YtgajalidbabccaaGreatDoor
open Go PI
set_option linter.unusedVariables false
set_option linter.unusedSimpArgs false
set_option maxRecDepth 100000
variable {S:Type} {k:Nat}
theorem aa0 (hk:Fu k) (ret:Bool→Option S) {x b:Tm} (hl:x.sys.length<1073741824) (he:b.sys.map (·.face)=x.sys.map (·.face)) (hf: ∀z∈x.sys,z.face.length<1073741824):
  ∀ (r p:List (Br Tm)) (m:Nat),x.sys=p++r→r.length<m→qe k ret b x m (p.length:Int)=ret true:=by
 have hlen:b.sys.length=x.sys.length:=by have:=congrArg List.length he;simpa using this
 intro r
 induction r with
 |nil=>
  intro p m h hm
  obtain ⟨m,rfl,hm'⟩:=av hm
  rw [List.append_nil] at h
  simp only [qe,wi]
  rw [hlen,h,decide_eq_false (by omega),af]
 |cons y r ih=>
  intro p m h hm
  obtain ⟨m,rfl,hm'⟩:=av hm
  obtain ⟨e1,e2,e3,e4⟩:=aV h (by omega)
  have hb: ∃z,b.sys[p.length]? =some z∧z.face=y.face:=by
   have h1:(b.sys.map (·.face))[p.length]? =some y.face:=by
    rw [he,h];simp
   rw [List.getElem?_map] at h1
   cases hz:b.sys[p.length]? with
   |none=>rw [hz] at h1;cases h1
   |some z=>rw [hz] at h1;exact ⟨z,rfl,by injection h1⟩
  obtain ⟨z,hz,hzf⟩:=hb
  have g2:aq b.sys (p.length:Int)=some z:=by rw [Ib];exact hz
  simp only [qe,wi]
  rw [hlen,e1,al,g2,Option.bind_some,e2,Option.bind_some,hzf,ap hk,EP hk (by have:=hf y (by rw [h];simp);omega),Bool.not_true,af,e3]
  exact ih _ m e4 hm'
theorem afq (hk:F3 k) {x b:Tm} (ox:OkT x) (he:b.sys.map (·.face)=x.sys.map (·.face)) (ret:Bool→Option S):lR k b x ret=ret true:=by
 have hfu:4294968296≤k:=hk
 have hlen:b.sys.length=x.sys.length:=by have:=congrArg List.length he;simpa using this
 have h7:=ox.no.2.2.2.2.2.2
 simp only [lR,FQ]
 rw [hlen,beq_self_eq_true,Bool.not_true,af]
 exact aa0 hk.fu ret h7 he (fun z hz=>(ox.bi hz).1.2.1) x.sys [] k rfl (by omega)
theorem Y5 {t k0 a:Tm} (hkd:t.kids=[k0,a]) (hb:cG t≤4):cG k0+cG a≤4∧aZ t.sys≤4∧aG t≤4:=by
 have h0:=sG t
 have h1:=Bq t
 refine ⟨?_,by omega,by omega⟩
 have h2:=Vw (kd:=t.kind) (l:=t.kids) (i:=0) (x:=k0) (y:=a) ⟨[k0],[a],by rw [hkd];rfl,by simp,by simp⟩
 have h3:=Bx t.sys
 cases t;rw [cG] at hb;simp only [Tm.sys,Tm.kind,Tm.kids] at*;omega
theorem Y7 (hk4:F4 k) {t y:Tm} {V D:Int} (ft:Fm t) (hz:ao t≤150) (h15:t.kind=15) (hV:0≤V) (hD:0≤D∧D≤6) (hb:cG t≤4) (hs:aF V D t) (hc:(t.kids.getD 0 ar).kind=4∨(t.kids.getD 0 ar).kind=7∨(t.kids.getD 0 ar).kind=11∨(t.kids.getD 0 ar).kind=3∨(t.kids.getD 0 ar).kind=16) (h:nG t= .ok y):
  aF V D y∧((t.kids.getD 0 ar).kind=4→y.kind=5∧ ∃z,y.kids=[z]∧z.kind=15∧z.sys.map (·.face)=t.sys.map (·.face))∧
  ((t.kids.getD 0 ar).kind=7→y.kind=8∧ ∃z w,y.kids=[z,w]∧z.kind=15∧z.sys.map (·.face)=t.sys.map (·.face)∧w.kind=15∧w.sys.map (·.face)=t.sys.map (·.face))∧
  ((t.kids.getD 0 ar).kind=11→y.kind=12∧ ∃z,y.kids=[z]∧z.kind=15∧z.sys.length=t.sys.length+2)∧
  ((t.kids.getD 0 ar).kind=3→y.kind=16∧y.kids=[t.kids.getD 1 ar]∧y.sys.map (·.face)=t.sys.map (·.face))∧
  ((t.kids.getD 0 ar).kind=16→y.kind=17):=by
 have hk:=hk4.f3
 obtain ⟨k0,a,hx⟩:=CJ ft h15 hz
 obtain ⟨d0,d1⟩:=eX hx.kids
 have fk:=hx.fk
 obtain ⟨b1,b2,b3⟩:=Y5 hx.kids hb
 have b4:=sG k0;have b5:=sG a;have b6:=lM k0;have b7:=lM a
 obtain ⟨x1,x2,x3⟩:=N8 hs h15
 obtain ⟨s0,sa⟩:=x3 hx.kids
 have hh:=h
 unfold nG at h
 rw [d0,d1] at h
 rw [d0] at hc
 rw [d0,d1]
 dsimp only at h
 split at h
 ·rename_i h4
  obtain ⟨p,b,hb⟩:=kw (gN fk h4 (n:=2) rfl)
  rw [(eX hb).2] at h
  obtain ⟨q1,q2,q3⟩:=agc hb h4 hx.fa hx.sy hV hD s0 sa x1 x2 (by omega) b2 h
  exact ⟨q1,fun _=>⟨q2,q3⟩,by omega,by omega,by omega,by omega⟩
 split at h
 ·rename_i _ h7
  obtain ⟨p,b,hb⟩:=kw (gN fk h7 (n:=2) rfl)
  rw [(eX hb).2,(eX hb).1] at h
  have c1:=oP (t:=k0) (x:=p) (by rw [hb];simp)
  have c2:=oP (t:=k0) (x:=b) (by rw [hb];simp)
  obtain ⟨q1,q2,q3⟩:=agf hk hb h7 (fk.kid (by rw [hb];simp)) (fk.kid (by rw [hb];simp)) hx.fa hx.sy (by have:=hx.syl;omega) hV hD s0 sa x1 x2 (by omega) (by omega) (by omega) b2 h
  exact ⟨q1,by omega,fun _=>⟨q2,q3⟩,by omega,by omega,by omega⟩
 split at h
 ·rename_i _ _ h11
  obtain ⟨p,l,r,hb⟩:=Qa (gN fk h11 (n:=3) rfl)
  rw [hb] at h
  have c1:=oP (t:=k0) (x:=l) (by rw [hb];simp)
  have c2:=oP (t:=k0) (x:=r) (by rw [hb];simp)
  obtain ⟨q1,q2,q3⟩:=agb (p:=p) (l:=l) (r:=r) hb h11 (fk.kid (by rw [hb];simp)) (fk.kid (by rw [hb];simp)) hx.fa hx.sy hV hD s0 sa x1 x2 (by omega) (by omega) (by omega) b2 h
  exact ⟨q1,by omega,by omega,fun _=>⟨q2,q3⟩,by omega,by omega⟩
 split at h
 ·rename_i _ _ _ h3
  obtain ⟨q1,q2,q3,q4⟩:=agi hx.fa hx.za hx.sy hx.zs hV hD sa x1 x2 (by omega) b2 h
  exact ⟨q1,by omega,by omega,by omega,fun _=>⟨q2,q3,q4⟩,by omega⟩
 ·have h16:k0.kind=16:=by omega
  obtain ⟨_,_,g,hg,_⟩:=fk.gl h16
  obtain ⟨q1,q2,_⟩:=aga hk ft h15 hx.kids h16 hg hV hD hs b3 h
  exact ⟨q1,by omega,by omega,by omega,by omega,fun _=>q2⟩
theorem ae3 (hk4:F4 k) {t:Tm} {V D:Int} (ht:In k t) (hV:aK V) (hD:aK D) (ret:Bool→Option S):xR k t V D ret=ret true:=by
 have hk:=hk4.f3
 have hfu:4294968296≤k:=hk
 simp only [xR,Pp,ap hk.fu,aJ,afY hk,Bool.not_true,af]
 generalize hR:(fun r2:Bool=>ab r2 (ret true) _)=R
 obtain ⟨c,h1,h2⟩:=afx hk ht R
 refine h1.trans ?_
 rw [←hR]
 cases c with
 |true=>rfl
 |false=>
 have hz:=h2 rfl
 dsimp only
 rw [af,cM]
 split
 ·rfl
 rename_i hD6
 rw [afa t ht.1 _ ht.2.1 (by have:=ht.2.2;omega),cM]
 split
 ·rfl
 rename_i hb4
 unfold aK at hV hD
 rw [N4 ht hk (by omega) (by omega)]
 by_cases r0:il t V D=0
 case neg=>rw [show (il t V D==0)=false from by simpa using r0];rfl
 rw [show (!(il t V D==0))=false from by simpa using r0,af,afA hk4 ht (by omega)]
 have ft:=YJ ht r0
 obtain ⟨v0,d0,hs⟩:=M_ r0
 have hno:cZ k ar ar ret=ret true:=NY ar (qG hk).1 ret (qG hk).2.1
 have hbad: ∀e:Int,ab (!(e==0)) (ab (!false) (cZ k ar ar ret) (ret false)) (ab (!false) (ab (!false) (cZ k ar ar ret) (ret false)) (ret true))=ret true:=fun e=>by
  rw [hno]
  cases (!(e==0))<;>rfl
 unfold CK
 rw [if_neg (by simp [ft.2])]
 split
 case isFalse=>
  simp only [Bool.not_false,al,beq_self_eq_true,Bool.not_true,af]
  exact hno
 rename_i hc
 cases hh:nG t with
 |error e=>
  show ab (!(e==0)) (ab (!false) (cZ k ar ar ret) (ret false)) (ab (!false) (ab (!false) (cZ k ar ar ret) (ret false)) _)=ret true
  rw [hno]
  cases (!(e==0))<;>rfl
 |ok y=>
 by_cases fy:bQ y=0
 case neg=>
  rw [show lE (.ok y)=(ar,false,bQ y) from if_neg fy]
  show ab (!(bQ y==0)) (ab (!false) (cZ k ar ar ret) (ret false)) (ab (!false) (ab (!false) (cZ k ar ar ret) (ret false)) _)=ret true
  rw [hno]
  cases (!(bQ y==0))<;>rfl
 rw [show lE (.ok y)=(y,true,0) from if_pos fy]
 obtain ⟨iy,_⟩:=Y6 hk4 ft hc.1 (by omega) hc.2 hh
 obtain ⟨sy,y4,y7,y11,y3,y16⟩:=Y7 hk4 ft (by omega) hc.1 v0 (by omega) (by omega) hs hc.2 hh
 obtain ⟨k0,a,hx⟩:=CJ ft hc.1 (by omega)
 obtain ⟨g0,g1⟩:=pD hx.kids
 obtain ⟨e0,e1⟩:=eX hx.kids
 rw [e0] at y4 y7 y11 y3 y16
 have hc2:=hc.2
 rw [e0] at hc2
 rw [e1] at y3
 have fac: ∀ {z:Tm} (g:Bool→Option S),z.sys.map (·.face)=t.sys.map (·.face)→lR k z t g=g true:=fun g hz=>afq hk ht.1 hz g
 simp only [Bool.not_true,af,beq_self_eq_true]
 rw [N4 iy hk (by omega) (by omega),aeK fy v0 d0 sy,show (!((0:Int)==0))=false from rfl,af,hc.1,show (!((15:Int)==15))=false from rfl,af,g0,Option.bind_some]
 by_cases h4:k0.kind=4
 ·obtain ⟨q1,z,q2,q3,q4⟩:=y4 h4
  have gz:aq y.kids 0=some z:=by rw [q2];rfl
  rw [h4,show ((4:Int)==4)=true from rfl,al,q1,show ((5:Int)==5)=true from rfl,al,gz,Option.bind_some,q3,show ((15:Int)==15)=true from rfl,al,Option.bind_some,fac _ q4]
 rw [beq_false_of_ne h4,af]
 by_cases h7:k0.kind=7
 ·obtain ⟨q1,z,w,q2,q3,q4,q5,q6⟩:=y7 h7
  obtain ⟨gz,gw⟩:=pD q2
  rw [h7,show ((7:Int)==7)=true from rfl,al,q1,show ((8:Int)==8)=true from rfl,al,gz,Option.bind_some,q3,show ((15:Int)==15)=true from rfl,al,Option.bind_some,fac _ q4,al,gw,Option.bind_some,q5,show ((15:Int)==15)=true from rfl,al,Option.bind_some,fac _ q6]
 rw [beq_false_of_ne h7,af]
 by_cases h11:k0.kind=11
 ·obtain ⟨q1,z,q2,q3,q4⟩:=y11 h11
  have gz:aq y.kids 0=some z:=by rw [q2];rfl
  have hw:IntKind.wrap .i64 ((t.sys.length:Int)+2)=(t.sys.length:Int)+2:=bJ (by omega) (by have:=hx.syl;omega)
  rw [h11,show ((11:Int)==11)=true from rfl,al,q1,show ((12:Int)==12)=true from rfl,al,gz,Option.bind_some,q3,show ((15:Int)==15)=true from rfl,al,Option.bind_some,hw,q4]
  exact congrArg ret (by simp)
 rw [beq_false_of_ne h11,af]
 by_cases h3:k0.kind=3
 ·obtain ⟨q1,q2,q3⟩:=y3 h3
  have gz:aq y.kids 0=some a:=by rw [q2];rfl
  rw [h3,show ((3:Int)==3)=true from rfl,al,q1,show ((16:Int)==16)=true from rfl,al,gz,Option.bind_some,g1,Option.bind_some,NY a hx.fa.ok _ (hx.fa.fd hk),al,fac _ q3]
 rw [beq_false_of_ne h3,af]
 have h16:k0.kind=16:=by omega
 rw [Option.bind_some,h16,show ((16:Int)==16)=true from rfl,al,y16 h16];rfl
end Go.Proofs.YtgajalidbabccaaGreatDoor
namespace Go.Proofs.YtgajalidbabccaaGreatDoor
open Go PI Go.ChangeShapes Go.WideShapes Go.ChangeAt Go.RowKit
set_option linter.unusedVariables false
set_option linter.unusedSimpArgs false
set_option maxRecDepth 100000
set_option maxHeartbeats 4000000
theorem Zp {k:Nat} (hk:4296016872≤k) {H:Type} {t:Tm} {d:DataW H} (h:QT t d) (hb:Rows.uptoBulk d≤1048576):In k t:=by
 have h1:=h.1
 have h2:=tl t
 exact ⟨h.2 (by omega),by unfold Fd;omega,by omega⟩
theorem GO {H:Type} {enc:TypeId×Value→H} {w:World} {spare:Nat→Bool} {held:Bool} {o:Obj} {N:aP} {g:Gh UU} (hN: ∀b o,¬N b o) {W:World} {base:Nat} {v:Value} {d:DataW H} {ps:List MemPlace} (hv:Value.okWide Tryz.prog W .any base 3 v) (h:DataW.Trod enc Tryz.prog w 0 spare held 3 v d ps):
  ∃n:Int,Rep (LL o) w N g v (.int .i64 n)∧aK n:=by
 obtain ⟨n,rfl⟩:=okWide_int Tryz.underlying3 hv
 obtain ⟨q,hq⟩:=h
 obtain ⟨z,hz,hi⟩:=DG hq
 obtain rfl:n=z:=by simpa [Value.cells] using hz
 exact ⟨n,.int _ _,hi⟩
theorem hrow (q:Nat) {a0 b0:Int} {c0:ByteArray} {d0:List Cl} {e0:List Tm} {f0:List (Br Tm)} {t1:Int} {t2:Int}:zR (S:=Out UU) q [.agg (dS ET.T (Tm.mk a0 b0 c0 d0 e0 f0)),.int .i64 t1,.int .i64 t2] [] some=aa q (xR q (Tm.mk a0 b0 c0 d0 e0 f0) t1 t2) fun r=>some (Out.ret (U:=UU) (.bool r) []):=by kernel_rfl
theorem abH {j:Nat} (hF:F4 (j+1)) {t0:Tm} (h0:In (j+1) t0) {t1:Int} (h1:aK t1) {t2:Int} (h2:aK t2):zR (S:=Out UU) (j+1) [.agg (dS ET.T t0),.int .i64 t1,.int .i64 t2] [] some=some (.ret (.bool true) []):=by
 obtain ⟨a0,b0,c0,d0,e0,f0⟩:=t0
 exact (hrow (j+1)).trans ((GY (by omega) _ _).trans (ae3 hF h0 h1 h2 fun r=>some (Out.ret (U:=UU) (.bool r) [])))
theorem abG {k:Nat} (hk:4296016872≤k) {o:Obj} (ho:ag o) {t0:Tm} (h0:In k t0) {t1:Int} (h1:aK t1) {t2:Int} (h2:aK t2):
  cx (LL o) 5 [.agg (dS ET.T t0),.int .i64 t1,.int .i64 t2] [] (.ret (.bool true) []):=by
 have hF:F4 k:=by unfold F4;omega
 obtain ⟨j,rfl⟩: ∃j,k=j+1:=⟨k-1,by omega⟩
 obtain ⟨out,hout,hx⟩:=ag3 (S:=Out UU) o ho (j+1) [.agg (dS ET.T t0),.int .i64 t1,.int .i64 t2] [] some (.ret (.bool true) []) (abH hF h0 h1 h2)
 injection hx with hx
 exact hx▸hout
theorem abF (H:Type) (enc:TypeId×Value→H) (W:World) (base:Nat) (args:Array Value) (ds gs:List (DataW H)) (before:List MemPlace)
  (hval: ∀ (j:Nat) t v,Tryz.f5.params[j]? =some t→args[j]? =some v→Value.okWide Tryz.prog W .any base t v)
  (hW:DataW.Whole enc Tryz.prog Tryz.f5.params.toList Rows.hcompMaySpec.vars false W args.toList ds gs before) (hL:laidMetH Tryz.prog Rows.hcompMayRow.laid W) (hb:Rows.uptoBulkAll (ds++gs)≤1048576):
  Calls Tryz.prog 5 args W fun e W'=> ∃v,e= .returned v∧Rows.hcompMaySpec.post enc Tryz.prog Tryz.f5 false true false false W args v W':=by
 have hW':=hW
 obtain ⟨p,q,hA0,hV,rfl,hfz,hnd⟩:=hW
 have hA:DataW.TrodAll enc Tryz.prog W 0 (fun _=>true) true Tryz.f5.params.toList args.toList ds p:=hA0
 rw [Tryz.params5] at hA hval
 obtain ⟨v0,vs0,d0,ds0,p0,q0,hargs,rfl,rfl,h0,r0⟩:=trodAll_cons hA
 obtain ⟨v1,vs1,d1,ds1,p1,q1,rfl,rfl,rfl,h1,r1⟩:=trodAll_cons r0
 obtain ⟨v2,vs2,d2,ds2,p2,q2,rfl,rfl,rfl,h2,r2⟩:=trodAll_cons r1
 obtain ⟨rfl,rfl,rfl⟩:=trodAll_nil r2
 obtain rfl:args= #[v0,v1,v2]:=by cases args;simp_all
 obtain ⟨rfl,rfl⟩:=trodVars_none hV
 obtain ⟨o,ho,hh⟩:=agW hL
 simp only [List.append_nil,Rows.uptoBulkAll,Nat.add_zero] at hb
 obtain ⟨t0,e0,k0⟩:=U4 (o:=o) (g:=gB UU 0 fun _=>0) DD h0
 obtain ⟨t1,e1,k1⟩:=GO (o:=o) (g:=gB UU 0 fun _=>0) DD (hval 1 3 v1 rfl rfl) h1
 obtain ⟨t2,e2,k2⟩:=GO (o:=o) (g:=gB UU 0 fun _=>0) DD (hval 2 3 v2 rfl rfl) h2
 have hk:(4296016872:Nat)≤4296016872:=Nat.le_refl _
 generalize hkk:(4296016872:Nat)=k at hk
 have hok:=abG (k:=k) (by omega) ho (Zp (by omega) k0 (by omega)) k1 k2
 refine (VM hok (Y2 hh rfl rfl fun j p hj=> ?_)).mono ?_
 ·match j,hj with
  |0,hj=>cases hj;exact e0
  |1,hj=>cases hj;exact e1
  |2,hj=>cases hj;exact e2
  |j+3,hj=>simp at hj
 ·rintro e W' ⟨rfl,hkept⟩
  refine ⟨_,rfl,adD rfl rfl (fun t ht=> ?_) rfl hW' hkept⟩
  rw [Tryz.params5] at ht
  have ht':t=26∨t=3∨t=3:=by simpa using ht
  rcases ht' with rfl|rfl|rfl<;>exact of_decide_eq_true (by kernel_rfl)
noncomputable def C4 (os:Os):World:=
 {World.holding Tryz.prog os ⟨#[],#[],[]⟩ with heap:=(World.holding Tryz.prog os ⟨#[],#[],[]⟩).heap.modify 0 fun
   | .cells _ t frozen=> .cells (Lib.deBruijn32tab.map fun n:Nat=>Value.int .u8 n).toArray t frozen
   |o=>o}
def ahT:Value:= .agg #[.int .i64 0,.int .i64 0,.string ByteArray.empty,.slice none 0 0,.slice none 0 0,.slice none 0 0]
def zeroArgs:Array Value:= #[ahT,.int .i64 0,.int .i64 0]
def ahR {H:Type}:DataW H:= .agg [.lit (.int .i64 0),.lit (.int .i64 0),.lit (.string []),.nil,.nil,.nil]
theorem abC (os:Os):laidMet Tryz.prog Rows.hcompMayRow.laid ((C4 os).forCall (fun _ _=>0) ⟨#[],zeroArgs,[]⟩).memory:=
 laidMet_of_run' 8 (by kernel_rfl) (by kernel_rfl)
theorem aew (os:Os) {H:Type} (enc:TypeId×Value→H): ∃places,DataW.whole enc Tryz.prog ((C4 os).forCall (fun _ _=>0) ⟨#[],zeroArgs,[]⟩).memory Tryz.f5.params.toList Rows.hcompMaySpec.vars false zeroArgs.toList 8=some ([ahR,.lit (.int .i64 0),.lit (.int .i64 0)],[],places):=
 ⟨[],by kernel_rfl⟩
theorem ab5 (os:Os) (started:os.Started) (H:Type) (enc:TypeId×Value→H) (F:Stop.Interp):
  ReturnsInHanded {} Tryz.checked os 5 .any ((Rows.OpenSpec.upto Rows.hcompMaySpec).preRow enc Tryz.prog Tryz.f5 Rows.hcompMayUptoRow.domain false Rows.hcompMayUptoRow.laid) (((Rows.OpenSpec.upto Rows.hcompMaySpec).at F).post enc Tryz.prog Tryz.f5 false true false false):=by
 obtain ⟨places,hx⟩:=aew os enc
 refine returnsInHanded_of_row (C:=Tryz.checked) (s:=Rows.OpenSpec.upto Rows.hcompMaySpec) own started (by kernel_rfl) Tryz.func5
  (witness_row_at (enc:=enc) (C:=Tryz.checked) false (C4 os) zeroArgs rfl (by kernel_rfl) (by kernel_rfl) (by kernel_rfl)
   (OpenSpec.preRow_of_cond 8 hx (by kernel_rfl) (fun k hk=>by cases hk;kernel_rfl) (by kernel_rfl) (abC os))) ?_
 intro W base args ds gs before hval hW _ hcond _ hL _ _
 exact abF H enc W base args ds gs before hval hW hL (of_decide_eq_true (hcond _ rfl))
theorem afZ:Rows.HcompMayUptoSaid:=
 OpenClaim.holds_of_cond 5 Tryz.f5 rfl rfl rfl rfl rfl rfl rfl ⟨rfl,rfl,rfl,rfl,rfl⟩ rfl rfl rfl rfl rfl (by as_aux_lemma=>kernel_rfl) Tryz.func5 ZD
  (of_decide_eq_true (by as_aux_lemma=>kernel_rfl)) (by unfold Func.isWrapper;first|(rw [if_pos (by decide+kernel)];kernel_rfl)|(rw [if_neg (by decide+kernel)];exact ⟨rfl,rfl⟩))
  (fun os started H enc _ F=>by rw [OpenClaim.pre_eq_preRow];exact ab5 os started H enc F)
theorem plain (f:FuncId) (fn:Func) (hf:Tryz.pinned.checked.prog.funcNamed "hypercube/hypercubelaw20.HcompMay" =some f) (hfn:Tryz.pinned.checked.prog.funcs[f]? =some fn):
  true=Tryz.pinned.checked.prog.looks []∧ ∀ (j:Nat) t,fn.params[j]? =some t→Tryz.pinned.checked.prog.wantsStandIn t=false:=by
 obtain rfl:f=5:=Option.some.inj ((show Tryz.prog.funcNamed "hypercube/hypercubelaw20.HcompMay" =some 5 by kernel_rfl).symm.trans hf)|>.symm
 obtain rfl:fn=Tryz.f5:=(Option.some.inj (Tryz.func5.symm.trans hfn)).symm
 refine ⟨by kernel_rfl,fun j t ht=> ?_⟩
 rw [Tryz.params5] at ht
 have ht':t=26∨t=3∨t=3:=by simpa using Array.mem_of_getElem? ht
 rcases ht' with rfl|rfl|rfl
 ·exact (show Tryz.prog.wantsStandIn 26=false by kernel_rfl)
 ·exact (show Tryz.prog.wantsStandIn 3=false by kernel_rfl)
 ·exact (show Tryz.prog.wantsStandIn 3=false by kernel_rfl)
theorem hcompMay_holds:Rows.HcompMayUptoCardSaid:=
 Claim7.holds_tied_plain_at .later [] _ _ _ _ afZ (fun _ h=>by cases h) (by as_aux_lemma=>kernel_rfl) (fun _ h=>by cases h) hcompMayUpto_row_tie rfl ⟨rfl,rfl⟩ (by as_aux_lemma=>kernel_rfl) rfl plain (by as_aux_lemma=>kernel_rfl)
#print axioms hcompMay_holds
end Go.Proofs.YtgajalidbabccaaGreatDoor
