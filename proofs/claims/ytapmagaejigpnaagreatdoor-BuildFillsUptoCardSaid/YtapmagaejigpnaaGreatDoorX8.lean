/- Part 8 of a proof: the sources, with their names and remarks, lie in wip/. -/
import Derived.Test.YtapmagaejigpnaaGreatDoorX7
import Derived.KernelRfl
namespace Go.Proofs.YtapmagaejigpnaaGreatDoor
open Go PI
set_option linter.unusedVariables false
set_option linter.unusedSimpArgs false
set_option maxRecDepth 20000
variable {S:Type} {k:Nat}
theorem fZ {t:Tm} (h:cz t=0):av t≤200∧az t≤20000∧bn false (-1) 24 t=true:=by
 unfold cz at h
 split at h
 ·cases h
 ·split at h
  ·cases h
  ·split at h
   ·next h1 h2 h3=>exact ⟨by omega,by omega,h3⟩
   ·cases h
theorem zW {t:Tm} (h1:av t≤200) (h2:az t≤20000) (h3:bn false (-1) 24 t=true):cz t=0:=by
 unfold cz
 rw [if_neg (by omega),if_neg (by omega),if_pos h3]
theorem Mg (t:Tm):0≤cz t∧cz t≤1000:=by
 unfold cz
 split
 ·omega
 ·split
  ·omega
  ·split<;>omega
def Fm (t:Tm):Prop:=OkT t∧cz t=0
theorem Fm.ok {t:Tm} (h:Fm t):OkT t:=h.1
theorem Fm.rows {t:Tm} (h:Fm t):RowsT t:=JC t h.1 (fZ h.2).2.2
theorem Fm.dep {t:Tm} (h:Fm t):av t≤200:=(fZ h.2).1
theorem Fm.siz {t:Tm} (h:Fm t):az t≤20000:=(fZ h.2).2.1
theorem nu {vb db v d:Int} (hvb:0≤vb∧vb≤1000000000) {t t':Tm} (h:Fm t) (hl:bj vb db v d t= .ok t'):Fm t':=by
 obtain ⟨h1,h2,h3,h4⟩:=OJ hvb.1 hvb.2 t v d t' hl
 obtain ⟨a,b,c⟩:=fZ h.2
 have:=h4 h.1
 exact ⟨this.1,zW (by omega) (by omega) (this.2.2 24 24 (by omega) (by omega) c)⟩
abbrev F3 (k:Nat):Prop:=4294968296≤k
theorem F3.fu (h:F3 k):Fu k:=by have:4294968296≤k:=h;show 4294967296≤k;omega
theorem F3.fd (h:F3 k) {n:Nat} (hn:n≤1000):Fd k n:=by have:4294968296≤k:=h;show 4294967296+n≤k;omega
theorem Fm.fd {t:Tm} (h:Fm t) (hk:F3 k):Fd k (av t):=hk.fd (by have:=h.dep;omega)
theorem Fm.vp {t:Tm} (h:Fm t) {v d:Int} (hv:0≤v∧v≤4611686018427380000) (hd:0≤d∧d≤4611686018427380000):VP v d (av t):=by have:=h.dep;unfold VP;omega
theorem gj (x:Except Int Tm) (ret:Tm×Int→Option S):ret (tE x)=eE x (fun t=>ret (t,0)) fun e=>ret (aK,e):=by cases x<;>rfl
theorem NW (hk:Fu k) (ret:Tm×Int→Option S) {c0 c2:Int} {c1:Tm} {ns:List Int} (hl:ns.length<1000) (hn: ∀x∈ns,0≤x):
  ∀ (r p:List Int) (m:Nat),ns=p++r→r.length<m→jQ k ret c0 c1 c2 ns m (p.length:Int)=p_ k c0 c1 c2 fun r4=>Pan.elim r4 (fun r4=>ret (r4,0)) fun e5=>ret (aK,e5):=by
 intro r
 induction r with
 |nil=>
  intro p m h hm
  obtain ⟨m,rfl,hm'⟩:=ao hm
  simp only [jQ,pd,aM h,ac,am hk,a8];rfl
 |cons x r ih=>
  intro p m h hm
  obtain ⟨m,rfl,hm'⟩:=ao hm
  obtain ⟨e1,e2,e3,e4⟩:=aJ h (by omega)
  have hx:=hn x (by rw [h];simp)
  simp only [jQ,pd,e1,ag,e2,Option.bind_some,e3,ih (p++[x]) m e4 hm',bW]
  rw [if_neg (by omega)]
theorem RE (hk:F3 k) {t:Tm} (ht:Fm t) {f b:Int} (hf:0≤f∧f≤24) (hb:0≤b∧b<9223372036854775808) (ret:Tm×Int→Option S):p9 k t f b ret=ret (tE (bj 0 b 0 f t)):=by
 have hl:=NW hk.fu ret (c0:=b) (c2:=f) (c1:=t) (ns:=[f,b]) (by simp) (by simp;omega) [f,b] [] k rfl (by have:4294968296≤k:=hk;simp;omega)
 have hl:jQ k ret b t f [f,b] k 0=_:=hl
 simp only [p9,FE,am hk.fu,a8,ub,xH,n8 ht.ok (ht.fd hk) (show av t<1099511627776 by have:=ht.dep;omega),ht.2,hl,p_,FF]
 rw [show ((0:Int)==0)=true from rfl,Bool.not_true,ac,if_neg (by omega),wN (by omega) (by unfold aI;omega) t ht.ok ht.rows _ (ht.fd hk) (ht.vp (by omega) (by omega)),jG,gj _ ret]
 exact bQ (fun _ _=>rfl) fun _ _=>rfl
def cQ (vb db:Int) (t:Tm):Except Int Tm:=bE (bj vb 0 0 0 t) (bj 0 db 0 0)
theorem yk {vb db:Int} (hvb:0≤vb∧vb≤1000000000) {t t':Tm} (h:Fm t) (hl:cQ vb db t= .ok t'):Fm t':=by
 obtain ⟨a,h1,h2⟩:=aq hl
 exact nu (by omega) (nu hvb h h1) h2
theorem lV {vb db:Int} {t:Tm} {e:Int} (h:cQ vb db t= .error e):0<e∧e≤1000:=by
 rcases ba h with h|⟨a,_,h⟩
 ·exact re t h
 ·exact re a h
theorem NX (hk:Fu k) (ret:Tm×Int→Option S) {c0 c1:Int} {c2:Tm} {ns:List Int} (hl:ns.length<1000) (hn: ∀x∈ns,0≤x):
  ∀ (r p:List Int) (m:Nat),ns=p++r→r.length<m→jR k ret c0 c1 c2 ns m (p.length:Int)=p8 k c0 c1 c2 fun r4=>Pan.elim r4 (fun r4=>ret (r4,0)) fun e5=>ret (aK,e5):=by
 intro r
 induction r with
 |nil=>
  intro p m h hm
  obtain ⟨m,rfl,hm'⟩:=ao hm
  simp only [jR,pe,aM h,ac,am hk,a8];rfl
 |cons x r ih=>
  intro p m h hm
  obtain ⟨m,rfl,hm'⟩:=ao hm
  obtain ⟨e1,e2,e3,e4⟩:=aJ h (by omega)
  have hx:=hn x (by rw [h];simp)
  simp only [jR,pe,e1,ag,e2,Option.bind_some,e3,ih (p++[x]) m e4 hm',bW]
  rw [if_neg (by omega)]
theorem RD (hk:F3 k) {t:Tm} (ht:Fm t) {vb db:Int} (hvb:0≤vb∧vb≤1000000) (hdb:0≤db∧db<9223372036854775808) (ret:Tm×Int→Option S):p7 k t vb db ret=ret (tE (cQ vb db t)):=by
 have hl:=NX hk.fu ret (c0:=db) (c1:=vb) (c2:=t) (ns:=[vb,db,1000000-vb]) (by simp) (by simp;omega) [vb,db,1000000-vb] [] k rfl (by have:4294968296≤k:=hk;simp;omega)
 have hl:jR k ret db vb t [vb,db,1000000-vb] k 0=_:=hl
 simp only [p7,FC,am hk.fu,a8,bL (n:=1000000-vb) (by omega) (by omega),uc,xJ,n8 ht.ok (ht.fd hk) (show av t<1099511627776 by have:=ht.dep;omega),ht.2,hl,p8,FD]
 rw [show ((0:Int)==0)=true from rfl,Bool.not_true,ac,wN (show 0≤vb∧vb≤1000000000 by omega) (show aI 0 by unfold aI;omega) t ht.ok ht.rows _ (ht.fd hk) (ht.vp (by omega) (by omega)),jG,gj _ ret]
 unfold cQ
 rw [aY]
 refine bQ (fun y hy=> ?_) fun _ _=>rfl
 have hy':=nu (show 0≤vb∧vb≤1000000000 by omega) ht hy
 rw [wN (show (0:Int)≤0∧(0:Int)≤1000000000 by omega) (show aI db by unfold aI;omega) y hy'.ok hy'.rows _ (hy'.fd hk) (hy'.vp (by omega) (by omega)),jG]
 exact bQ (fun _ _=>rfl) fun _ _=>rfl
end Go.Proofs.YtapmagaejigpnaaGreatDoor
namespace Go.Proofs.YtapmagaejigpnaaGreatDoor
open Go PI
set_option linter.unusedVariables false
set_option linter.unusedSimpArgs false
set_option maxRecDepth 20000
variable {S:Type} {k:Nat}
def aF (i:Int) (r:List Cl) (fa:Bool):ca:=fun d f=>if bY (dW f) (i+d) then bE (cm (aP r 0 d)) fun s=>cm (if fa then dA f (i+d) s else dB f (i+d) s) else .ok f
theorem zf (f:List Cl):U32 (dW f):=by
 have:=zg f
 exact ⟨Int.natCast_nonneg _,by show ((fi f:Nat):Int)<_;omega⟩
theorem B2 {f r:List Cl} {i:Int} (hr:aj r) (h:(dB f i r).2=0):RF (dB f i r).1:=by
 unfold dB at h ⊢
 split
 ·next hc=>
  rw [if_pos hc] at h
  simp only [Bool.and_eq_true] at hc
  exact zU (fun h c hh h0=>rC ((gm hr).1 hc.1.2) h c hh h0) gk h
 ·next hc=>rw [if_neg hc] at h;exact absurd h (by decide)
theorem vw (f g:List Cl):EN (cY f g).2:=lj _
theorem uT (f g:List Cl):EN (cM f g).2:=lj _
theorem OU (f g:List Cl):EN (eW f g).2:=lj _
theorem BM (f:List Cl):EN (aZ f).2:=qK fun h c=>vw _ _
theorem PZ (i:Int) (r:List Cl) (c:Cl):EN (de i r c).2:=by
 unfold de
 split
 ·exact vw _ _
 ·exact jH
theorem P0 (i:Int) (r:List Cl) (c:Cl) (g:List Cl):EN (eH i r c g).2:=by
 unfold eH
 split
 ·split
  ·exact vw _ _
  ·exact BM _
 ·exact jH
theorem PX (i:Int) (r h:List Cl) (c:Cl):EN (dc i r h c).2:=by
 unfold dc
 split
 ·split
  ·exact uT _ _
  ·exact P0 _ _ _ _
 ·exact PZ _ _ _
theorem P4 (f:List Cl) (i:Int) (r:List Cl):EN (dB f i r).2:=by
 unfold dB
 split
 ·exact qK fun h c=>PX i r h c
 ·exact iy
theorem Pb (f:List Cl):EN (c_ f).2:=by
 unfold c_
 split
 ·exact lj _
 ·exact iy
theorem Pc (f:List Cl):EN (dp f).2:=by
 unfold dp
 split
 ·split
  ·exact lj _
  ·exact BM _
 ·exact iy
theorem BZ {i:Int} {c:Cl} {h:List Cl} {q:List Cl×Int} (hq:EN q.2):EN (cq i c h q).2:=by
 unfold cq
 split
 ·split
  ·exact uT _ _
  ·exact OU _ _
 ·exact hq
theorem P3 (f:List Cl) (i:Int) (r:List Cl):EN (dA f i r).2:=by
 unfold dA
 split
 ·refine qK fun h c=> ?_
  unfold bV
  split
  ·exact BZ (Pb _)
  ·split
   ·exact BZ (Pc _)
   ·exact uT _ _
 ·exact iy
theorem sb {i:Int} {r:List Cl} {fa:Bool} {d:Int} {f g:List Cl} (hf:RF f) (h:aF i r fa d f= .ok g):RF g:=by
 unfold aF at h
 split at h
 ·obtain ⟨s,h1,h⟩:=aq h
  obtain ⟨h0,rfl⟩:=fL h1
  have hs:=gV h0
  obtain ⟨h2,rfl⟩:=fL h
  cases fa with
  |true=>exact (B1 hf.2 hs.2 h2).1
  |false=>exact B2 hs.2 h2
 ·injection h with h;subst h;exact hf
theorem DK {i:Int} {r:List Cl} {fa:Bool} {d:Int} {f:List Cl} {e:Int} (h:aF i r fa d f= .error e):0<e∧e≤1000:=by
 unfold aF at h
 split at h
 ·rcases ba h with h|⟨s,_,h⟩
  ·obtain ⟨h1,rfl⟩:=ow h
   have:=rd r 0 d
   unfold EN at this;omega
  ·obtain ⟨h1,rfl⟩:=ow h
   cases fa with
   |true=>
    have:=P3 f (i+d) s
    unfold EN at this
    simp only [if_true] at h1 ⊢
    omega
   |false=>
    have:=P4 f (i+d) s
    unfold EN at this
    simp only [Bool.false_eq_true,if_false] at h1 ⊢
    omega
 ·cases h
theorem DL {i:Int} {r:List Cl} {fa:Bool} {d:Int}:aF i r fa d []= .ok []:=by
 unfold aF
 rw [if_neg]
 intro h
 unfold bY at h
 rw [Bool.and_eq_true] at h
 have:=h.2
 unfold dW at this
 rw [Int.toNat_natCast,zh] at this
 simp [kg] at this
def ja (i:Int) (r:List Cl) (fa:Bool) (d:Int) (f:List Cl):List Cl×Int:=if bY (dW f) (i+d) then if (aP r 0 d).2=0 then if fa then dA f (i+d) (aP r 0 d).1 else dB f (i+d) (aP r 0 d).1 else ([],(aP r 0 d).2) else (f,0)
theorem yd (i:Int) (r:List Cl) (fa:Bool) (d:Int) (f:List Cl):cm (ja i r fa d f)=aF i r fa d f:=by
 unfold ja aF
 split
 ·by_cases h0:(aP r 0 d).2=0
  ·rw [if_pos h0,jc h0,ak]
  ·rw [if_neg h0,lS h0,JL,lS (show ¬ (([]:List Cl),(aP r 0 d).2).2=0 from h0)]
 ·rfl
section
variable {i d:Int} {r f:List Cl}
theorem Ek (hk:Fu k) (hf:RF f) (hr:RF r) (hi:0≤i∧i<24) (hd:0≤d∧d<4611686018427387000) (ret:List Cl×Int→Option S):mM k f d i r ret=ret (ja i r true d f):=by
 have l1:=hf.len;have l2:=hr.len
 simp only [mM,E6,am hk,bL (n:=i+d) (by omega) (by omega),wK hk hf.2 (show f.length<4294967296 by omega),lN hk (zf f),mL,xg,bM (show 0+f.length≤1099511627776 by omega),oa hk hr.2 (show r.length<1073741824 by omega) (show aI 0 by unfold aI;omega) (show aI d by unfold aI;omega)]
 unfold ja
 cases bY (dW f) (i+d) with
 |false=>rw [Bool.not_false,ag];rfl
 |true=>
  rw [Bool.not_true,ac,bP,if_pos rfl]
  by_cases h0:(aP r 0 d).2=0
  ·have hs:=gV h0
   rw [decide_eq_true h0,Bool.not_true,ac,Rv hk hf.2 hs.2 hf.lt hs.lt,if_pos h0,if_pos rfl]
  ·rw [decide_eq_false h0,Bool.not_false,ag,if_neg h0]
theorem RO (hk:Fu k) (hf:RF f) (hr:RF r) (hi:0≤i∧i<24) (hd:0≤d∧d<4611686018427387000) (ret:List Cl×Int→Option S):pL k f d i r ret=ret (ja i r false d f):=by
 have l1:=hf.len;have l2:=hr.len
 simp only [pL,E5,am hk,bL (n:=i+d) (by omega) (by omega),wK hk hf.2 (show f.length<4294967296 by omega),lN hk (zf f),mL,xg,bM (show 0+f.length≤1099511627776 by omega),oa hk hr.2 (show r.length<1073741824 by omega) (show aI 0 by unfold aI;omega) (show aI d by unfold aI;omega)]
 unfold ja
 cases bY (dW f) (i+d) with
 |false=>rw [Bool.not_false,ag];rfl
 |true=>
  rw [Bool.not_true,ac,bP,if_pos rfl]
  by_cases h0:(aP r 0 d).2=0
  ·have hs:=gV h0
   rw [decide_eq_true h0,Bool.not_true,ac,Rs hk hf.2 hs.2 hf.lt hs.lt,if_pos h0,if_neg (by decide)]
  ·rw [decide_eq_false h0,Bool.not_false,ag,if_neg h0]
end
def dv (j:Int) (c:Cl):Cl:=⟨iw c.pos j,iw c.neg j⟩
def aG (j:Int) (f:List Cl):List Cl:=(aX (f.map (dv j))).1
theorem zi (s j:Int):0≤iw s j∧iw s j<16777216:=by
 have:=Ko s.toNat j
 exact ⟨Int.natCast_nonneg _,by show ((it s.toNat j:Nat):Int)<_;omega⟩
theorem yX (j:Int) (c:Cl):RC (dv j c):=⟨zi _ _,zi _ _⟩
theorem pC (j:Int) (f:List Cl): ∀c∈f.map (dv j),RC c:=fun c hc=>by
 obtain ⟨d,_,rfl⟩:=List.mem_map.1 hc
 exact yX j d
theorem mH {j:Int} {f:List Cl} (hf:f.length≤64):aX (f.map (dv j))=(aG j f,0):=Prod.ext rfl (nr (pC j f) (by rw [List.length_map];exact hf))
theorem yY {j:Int} {f:List Cl} (hf:f.length≤64):RF (aG j f):=lk (fun c hc=>(pC j f c hc).ok) (by rw [mH hf])
theorem O1: ∀ (n:Nat) {l:List Cl} {c:Cl},(l.filter fun d=>bt c d&& !decide (d=c)).length≤n→(∀d∈l,RC d)→c∈l→ ∃d∈l,bv l d=true:=by
 have hle: ∀ {a b:Cl},RC a→RC b→(bt a b=true↔(∀j,b.pos.toNat.testBit j=true→a.pos.toNat.testBit j=true)∧ ∀j,b.neg.toNat.testBit j=true→a.neg.toNat.testBit j=true):=by
  intro a b ha hb
  unfold bt ck
  rw [decide_eq_true_eq]
  have hor: ∀ {x y:Int},0≤x→(dq x y=x↔ ∀j,y.toNat.testBit j=true→x.toNat.testBit j=true):=by
   intro x y hx
   unfold dq
   constructor
   ·intro h j hj
    have:(x.toNat|||y.toNat)=x.toNat:=by omega
    rw [←this,Nat.testBit_or,hj,Bool.or_true]
   ·intro h
    have:(x.toNat|||y.toNat)=x.toNat:=by
     apply Nat.eq_of_testBit_eq
     intro j
     rw [Nat.testBit_or]
     cases hy:y.toNat.testBit j with
     |false=>rw [Bool.or_false]
     |true=>rw [h j hy];rfl
    rw [this];omega
  cases a with
  |mk p q=>
   have h1:0≤p:=ha.1.1
   have h2:0≤q:=ha.2.1
   rw [←hor h1,←hor h2]
   constructor
   ·intro h;injection h with h1 h2;exact ⟨h1,h2⟩
   ·rintro ⟨h1,h2⟩;simp only at h1 h2 ⊢;rw [h1,h2]
 have hanti: ∀ {a b:Cl},RC a→RC b→bt a b=true→bt b a=true→a=b:=by
  intro a b ha hb h1 h2
  have e1:=(hle ha hb).1 h1
  have e2:=(hle hb ha).1 h2
  have hx: ∀ {x y:Int},0≤x→0≤y→(∀j,y.toNat.testBit j=true→x.toNat.testBit j=true)→(∀j,x.toNat.testBit j=true→y.toNat.testBit j=true)→x=y:=by
   intro x y hx hy a b
   have:x.toNat=y.toNat:=by
    apply Nat.eq_of_testBit_eq
    intro j
    rw [Bool.eq_iff_iff]
    exact ⟨b j,a j⟩
   omega
  cases a;cases b
  have p1:=hx ha.1.1 hb.1.1 e1.1 e2.1
  have p2:=hx ha.2.1 hb.2.1 e1.2 e2.2
  simp only at p1 p2
  rw [p1,p2]
 intro n
 induction n with
 |zero=>
  intro l c hn hl hc
  refine ⟨c,hc, ?_⟩
  unfold bv
  rw [List.all_eq_true]
  intro d hd
  have:(l.filter fun d=>bt c d&& !decide (d=c))=[]:=List.length_eq_zero_iff.1 (by omega)
  have hnot:=List.filter_eq_nil_iff.1 this d hd
  cases h1:decide (d=c) with
  |true=>rfl
  |false=>
   rw [h1] at hnot
   cases h2:bt c d with
   |false=>rfl
   |true=>rw [h2] at hnot;exact absurd rfl hnot
 |succ n ih=>
  intro l c hn hl hc
  by_cases h:bv l c=true
  ·exact ⟨c,hc,h⟩
  ·unfold bv at h
   rw [List.all_eq_true] at h
   have: ∃d∈l,¬ ((decide (d=c)|| !bt c d)=true):=Classical.byContradiction fun hh=>h fun d hd=>Classical.byContradiction fun h2=>hh ⟨d,hd,h2⟩
   obtain ⟨d,hd,hd'⟩:=this
   have h1:d≠c:=fun h=>hd' (by rw [decide_eq_true h];rfl)
   have h2:bt c d=true:=by
    cases hb:bt c d with
    |true=>rfl
    |false=>exact absurd (by rw [hb,Bool.not_false,Bool.or_true]) hd'
   refine ih (c:=d) ?_ hl hd
   have hsub:(l.filter fun e=>bt d e&& !decide (e=d)).length<(l.filter fun e=>bt c e&& !decide (e=c)).length:=by
    have hc':=hl c hc;have hdr:=hl d hd
    have himp: ∀e∈l,(bt d e&& !decide (e=d))=true→(bt c e&& !decide (e=c))=true:=by
     intro e he hh
     rw [Bool.and_eq_true] at hh ⊢
     have her:=hl e he
     have e1:=(hle hdr her).1 hh.1
     have e2:=(hle hc' hdr).1 h2
     refine ⟨(hle hc' her).2 ⟨fun j hj=>e2.1 j (e1.1 j hj),fun j hj=>e2.2 j (e1.2 j hj)⟩, ?_⟩
     rw [Bool.not_eq_true',decide_eq_false_iff_not]
     intro h3
     subst h3
     exact h1 (hanti hdr hc' hh.1 h2)
    have hle2: ∀ (p q:Cl→Bool) (m:List Cl),(∀e∈m,p e=true→q e=true)→(m.filter p).length≤(m.filter q).length:=by
     intro p q m
     induction m with
     |nil=>intro _;exact Nat.le_refl _
     |cons e m im=>
      intro hm
      have:=im fun e he=>hm e (by simp [he])
      by_cases hp:p e=true
      ·rw [List.filter_cons_of_pos hp,List.filter_cons_of_pos (hm e (by simp) hp),List.length_cons,List.length_cons];omega
      ·rw [List.filter_cons_of_neg hp]
       by_cases hq:q e=true
       ·rw [List.filter_cons_of_pos hq,List.length_cons];omega
       ·rw [List.filter_cons_of_neg hq];omega
    have hlt: ∀ (p q:Cl→Bool) (m:List Cl),(∀e∈m,p e=true→q e=true)→d∈m→p d=false→q d=true→(m.filter p).length<(m.filter q).length:=by
     intro p q m
     induction m with
     |nil=>intro _ h;cases h
     |cons e m im=>
      intro hm hdm hp hq
      have hrest: ∀e∈m,p e=true→q e=true:=fun e he=>hm e (by simp [he])
      have hb:=hle2 p q m hrest
      rcases List.mem_cons.1 hdm with rfl|hdm
      ·rw [List.filter_cons_of_neg (by rw [hp];decide),List.filter_cons_of_pos hq,List.length_cons];omega
      ·have:=im hrest hdm hp hq
       by_cases hp':p e=true
       ·rw [List.filter_cons_of_pos hp',List.filter_cons_of_pos (hm e (by simp) hp'),List.length_cons,List.length_cons];omega
       ·rw [List.filter_cons_of_neg hp']
        by_cases hq':q e=true
        ·rw [List.filter_cons_of_pos hq',List.length_cons];omega
        ·rw [List.filter_cons_of_neg hq'];omega
    exact hlt _ _ l himp hd (by simp) (by rw [h2,decide_eq_false h1];rfl)
   omega
theorem Ki {j:Int} {f:List Cl} (hf:RF f):(aG j f).length=0↔f.length=0:=by
 have h:=mH (j:=j) hf.len
 have hm:=(gU h).1
 constructor
 ·intro h0
  apply Classical.byContradiction
  intro hne
  obtain ⟨c,hc⟩:=List.exists_mem_of_length_pos (l:=f.map (dv j)) (by rw [List.length_map];omega)
  obtain ⟨d,hd,hn⟩:=O1 _ (Nat.le_refl _) (pC j f) hc
  have:d∈aG j f:=by rw [hm];exact mem_mins.2 ⟨hd,hn⟩
  rw [List.length_eq_zero_iff.1 h0] at this
  cases this
 ·intro h0
  have:=List.length_eq_zero_iff.1 h0
  subst this;rfl
theorem NG (hk:Fu k) (ret:List Cl×Int→Option S) {i d:Int} (hi:0≤i∧i<24) (hd:0≤d∧d<4611686018427387000) {f:List Cl} (hf:aj f) (hlen:f.length<1073741824):
  ∀ (r p:List Cl) (m:Nat) (o:List Cl),f=p++r→r.length<m→aj o→o.length=p.length→kP k ret i d f m (p.length:Int) o=ret (aX (o++r.map (dv (i+d)))):=by
 intro r
 induction r with
 |nil=>
  intro p m o h hm hok ho
  obtain ⟨m,rfl,hm'⟩:=ao hm
  have:o.length<1073741824:=by rw [ho];rw [h] at hlen;simpa using hlen
  simp only [kP,oM,aM h,ac,am hk,g4 hk hok (show o.length<2147483648 by omega),List.map_nil,List.append_nil]
 |cons x r ih=>
  intro p m o h hm hok ho
  obtain ⟨m,rfl,hm'⟩:=ao hm
  obtain ⟨e1,e2,e3,e4⟩:=aJ h (by omega)
  have hx:aV x:=hf x (by rw [h];simp)
  have hpl:p.length<f.length:=by rw [h];simp
  simp only [kP,oM,e1,ag,e2,Option.bind_some,am hk,bL (n:=i+d) (by omega) (by omega),D7 hk hx.1,D7 hk hx.2,e3]
  rw [bM (by simp;omega)]
  have:=ih (p++[x]) m (o++[dv (i+d) x]) e4 hm' (fG hok fun c hc=>by simp at hc;subst hc;exact (yX _ _).ok) (by simp;omega)
  refine Eq.trans this ?_
  simp
theorem Ed (hk:Fu k) {i d:Int} (hi:0≤i∧i<24) (hd:0≤d∧d<4611686018427387000) {f:List Cl} (hf:RF f) (ret:List Cl×Int→Option S):kw k f d i ret=ret (aG (i+d) f,0):=by
 have l1:=hf.len
 have:=NG hk ret hi hd hf.2 (by omega) f [] k [] rfl (by have:4294967296≤k:=hk;omega) (fun c hc=>by cases hc) rfl
 simp only [kw,xe]
 refine Eq.trans this ?_
 rw [List.nil_append,mH l1]
end Go.Proofs.YtapmagaejigpnaaGreatDoor
namespace Go.Proofs.YtapmagaejigpnaaGreatDoor
open Go PI
set_option linter.unusedVariables false
set_option linter.unusedSimpArgs false
set_option maxRecDepth 20000
variable {S:Type} {k:Nat}
theorem Gs (fo fa:ca) (d:Int) (t:Tm):ay fo fa d t=bE (if t.kind=14 then fa d t.r else fo d t.r) fun r'=>bE (aO fo fa d t.kind 0 t.kids) fun ks'=>bE (ax fo fa d t.kind t.sys) fun sys'=> .ok (.mk t.kind t.n t.name r' ks' sys'):=by cases t;rw [ay];rfl
theorem yl (fo fa:ca) (d kd:Int) (b:Br Tm):cF fo fa d kd b=bE (fa d b.face) fun f'=>if f'.length=0 then .ok [] else bE (aS fo fa d kd b.kids) fun ks'=> .ok [.mk f' ks']:=by cases b;rw [cF]
section
variable {fo fa:ca} (hfo: ∀d f e,fo d f= .error e→0<e∧e≤1000) (hfa: ∀d f e,fa d f= .error e→0<e∧e≤1000)
include hfo hfa
theorem je (t:Tm): ∀ {d e},ay fo fa d t= .error e→0<e∧e≤1000:=by
 induction t using d_ with
 |h kd n nm r ks sys ih1 ih2=>
  intro d e h
  rw [ay] at h
  rcases ba h with h|⟨_,_,h⟩
  ·split at h
   ·exact hfa _ _ _ h
   ·exact hfo _ _ _ h
  have hkids: ∀ {l:List Tm} {i:Nat},(∀x∈l,∀ {d e},ay fo fa d x= .error e→0<e∧e≤1000)→aO fo fa d kd i l= .error e→0<e∧e≤1000:=by
   intro l
   induction l with
   |nil=>intro i _ h;rw [aO] at h;cases h
   |cons t l ih=>
    intro i hl h
    rw [aO] at h
    rcases ba h with h|⟨_,_,h⟩
    ·exact hl t (by simp) h
    ·rcases ba h with h|⟨_,_,h⟩
     ·exact ih (fun x hx=>hl x (by simp [hx])) h
     ·cases h
  have hmore: ∀ {l:List Tm},(∀x∈l,∀ {d e},ay fo fa d x= .error e→0<e∧e≤1000)→ ∀ {e},aS fo fa d kd l= .error e→0<e∧e≤1000:=by
   intro l
   induction l with
   |nil=>intro _ e h;rw [aS] at h;cases h
   |cons t l ih=>
    intro hl e h
    rw [aS] at h
    rcases ba h with h|⟨_,_,h⟩
    ·exact hl t (by simp) h
    ·rcases ba h with h|⟨_,_,h⟩
     ·exact ih (fun x hx=>hl x (by simp [hx])) h
     ·cases h
  have hsys: ∀ {l:List (Br Tm)},(∀b∈l,∀x∈b.kids,∀ {d e},ay fo fa d x= .error e→0<e∧e≤1000)→ax fo fa d kd l= .error e→0<e∧e≤1000:=by
   intro l
   induction l with
   |nil=>intro _ h;rw [ax] at h;cases h
   |cons b l ih=>
    intro hl h
    rw [ax] at h
    rcases ba h with h|⟨_,_,h⟩
    ·rw [yl] at h
     rcases ba h with h|⟨_,_,h⟩
     ·exact hfa _ _ _ h
     ·split at h
      ·cases h
      ·rcases ba h with h|⟨_,_,h⟩
       ·exact hmore (hl b (by simp)) h
       ·cases h
    ·rcases ba h with h|⟨_,_,h⟩
     ·exact ih (fun b hb=>hl b (by simp [hb])) h
     ·cases h
  rcases ba h with h|⟨_,_,h⟩
  ·exact hkids (fun x hx=>ih1 x hx) h
  ·rcases ba h with h|⟨_,_,h⟩
   ·exact hsys ih2 h
   ·cases h
theorem Gp {kd d:Int}: ∀ {l:List Tm} {i:Nat} {e:Int},aO fo fa d kd i l= .error e→0<e∧e≤1000:=by
 intro l
 induction l with
 |nil=>intro i e h;rw [aO] at h;cases h
 |cons t l ih=>
  intro i e h
  rw [aO] at h
  rcases ba h with h|⟨_,_,h⟩
  ·exact je hfo hfa t h
  ·rcases ba h with h|⟨_,_,h⟩
   ·exact ih h
   ·cases h
theorem Gq {kd d:Int}: ∀ {l:List Tm} {e:Int},aS fo fa d kd l= .error e→0<e∧e≤1000:=by
 intro l
 induction l with
 |nil=>intro e h;rw [aS] at h;cases h
 |cons t l ih=>
  intro e h
  rw [aS] at h
  rcases ba h with h|⟨_,_,h⟩
  ·exact je hfo hfa t h
  ·rcases ba h with h|⟨_,_,h⟩
   ·exact ih h
   ·cases h
end
theorem ou {α β:Type} (x:Except Int Tm) (hx: ∀e,x= .error e→0<e∧e≤1000) (f:Tm→α) (g:Int→α):(fun r:Tm×Int=>ab (!(r.2==0)) (g r.2) (f r.1)) (tE x)=eE x f g:=by
 cases x with
 |ok t=>rfl
 |error e=>
  have:=(hx e rfl).1
  show ab (!(e==0)) (g e) (f aK)=g e
  rw [bP,decide_eq_false (by omega),Bool.not_false,ag]
theorem rB {α β γ:Type} (x:Except Int α) (hx: ∀e,x= .error e→0<e∧e≤1000) (z:α) (f:α→β) (g:Int→β):eE x (fun l=>(fun r:α×Int=>ab (!(r.2==0)) (g r.2) (f r.1)) (l,0)) (fun e=>(fun r:α×Int=>ab (!(r.2==0)) (g r.2) (f r.1)) (z,e))=eE x f g:=by
 cases x with
 |ok t=>rfl
 |error e=>
  have:=(hx e rfl).1
  show ab (!(e==0)) (g e) (f z)=g e
  rw [bP,decide_eq_false (by omega),Bool.not_false,ag]
theorem iV {G:Int→List Cl→List Cl}: ∀d f e,ap G d f= .error e→0<e∧e≤1000:=fun d f e h=>by cases h
theorem gn {i:Int} {r:List Cl} {fa:Bool}: ∀d f e,aF i r fa d f= .error e→0<e∧e≤1000:=fun d f e h=>DK h
section
variable {hd:Tm→Int→Int→List Cl→(Tm×Int→Option S)→Option S} {i d:Int} {t:Tm} {r:List Cl}
theorem P_ (hk:Fu k) (hi:0≤i∧i<24) (hr:RF r) (hd0:0≤d∧d<4611686018427386000) (hro:RowsT t) (ret:List Cl×Int→Option S): ∃z:List Cl×Int,cm z=(if t.kind=14 then (aF i r true) d t.r else (aF i r false) d t.r)∧pM k t d i r ret=ret z:=by
 have hr0:=hro.no.1
 simp only [pM,E9,am hk,Ek hk hr0 hr hi (show 0≤d∧d<4611686018427387000 by omega),RO hk hr0 hr hi (show 0≤d∧d<4611686018427387000 by omega)]
 by_cases h:t.kind=14
 ·rw [h,if_pos rfl,show ((14:Int)==14)=true from rfl,ag]
  exact ⟨_,yd _ _ _ _ _,rfl⟩
 ·rw [if_neg h,show (t.kind==14)=false from by rw [beq_eq_false_iff_ne];exact h,ac]
  exact ⟨_,yd _ _ _ _ _,rfl⟩
theorem P6 (hk:Fu k) (ret:List Tm×Int→Option S) (hd0:0≤d∧d<4611686018427386000) (hQ: ∀y∈t.kids,∀b,0≤b∧b≤1→ ∀g,hd y (d+b) i r g=g (tE (ay (aF i r false) (aF i r true) (d+b) y))) (hl:t.kids.length<1073741824):
  ∀ (r' p:List Tm) (m:Nat) (acc:List Tm),t.kids=p++r'→r'.length<m→acc.length=p.length→
  iJ hd k ret i r t t.kids d m acc (p.length:Int)=eE (aO (aF i r false) (aF i r true) d t.kind p.length r') (fun l=>ret (acc++l,0)) fun e=>ret ([],e):=by
 intro r'
 induction r' with
 |nil=>
  intro p m acc h hm ha
  obtain ⟨m,rfl,hm'⟩:=ao hm
  simp only [iJ,oQ,aM h,ac,aO,bp,List.append_nil]
 |cons y r' ih=>
  intro p m acc h hm ha
  obtain ⟨m,rfl,hm'⟩:=ao hm
  obtain ⟨e1,e2,e3,e4⟩:=aJ h (by omega)
  have hpl:p.length<t.kids.length:=by rw [h];simp
  have b2':=fN t.kind p.length
  have hy:=hQ y (by rw [h];simp) (bU t.kind p.length) b2'
  simp only [iJ,oQ,e1,ag,e2,Option.bind_some,am hk,mN,xm,lM,a8,bL (n:=d+bU t.kind p.length) (by omega) (by omega),hy]
  refine Eq.trans (ou (β:=Unit) _ (fun e he=>je gn gn y he) (fun z=>Option.bind (aR 1099511627776 acc.length [z].length) fun _=>iJ hd k ret i r t t.kids d m (acc++[z]) (IntKind.wrap .i64 ((p.length:Int)+1))) fun e=>ret ([],e)) ?_
  simp only [aO,aY,bp]
  refine bQ (fun t' ht'=> ?_) fun e _=>rfl
  rw [bM (by simp;omega),e3,ih (p++[y]) m (acc++[t']) e4 hm' (by simp;omega),show (p++[y]).length=p.length+1 by simp]
  simp
theorem P7 (hk:Fu k) (ret:List Tm×Int→Option S) {x:Br Tm} {kd:Int} (hd0:0≤d∧d<4611686018427386000) (hQ: ∀y∈x.kids,∀g,hd y (d+aw kd) i r g=g (tE (ay (aF i r false) (aF i r true) (d+aw kd) y))) (hl:x.kids.length<1073741824):
  ∀ (r' p:List Tm) (m:Nat) (acc:List Tm),x.kids=p++r'→r'.length<m→acc.length=p.length→
  iH hd k ret i r (aw kd) x.kids d m acc (p.length:Int)=eE (aS (aF i r false) (aF i r true) d kd r') (fun l=>ret (acc++l,0)) fun e=>ret ([],e):=by
 have hmo:=d4 kd
 intro r'
 induction r' with
 |nil=>
  intro p m acc h hm ha
  obtain ⟨m,rfl,hm'⟩:=ao hm
  simp only [iH,oP,aM h,ac,aS,bp,List.append_nil]
 |cons y r' ih=>
  intro p m acc h hm ha
  obtain ⟨m,rfl,hm'⟩:=ao hm
  obtain ⟨e1,e2,e3,e4⟩:=aJ h (by omega)
  have hpl:p.length<x.kids.length:=by rw [h];simp
  have hy:=hQ y (by rw [h];simp)
  simp only [iH,oP,e1,ag,e2,Option.bind_some,am hk,mO,xo,a8,bL (n:=d+aw kd) (by omega) (by omega),hy]
  refine Eq.trans (ou (β:=Unit) _ (fun e he=>je gn gn y he) (fun z=>Option.bind (aR 1099511627776 acc.length [z].length) fun _=>iH hd k ret i r (aw kd) x.kids d m (acc++[z]) (IntKind.wrap .i64 ((p.length:Int)+1))) fun e=>ret ([],e)) ?_
  simp only [aS,aY,bp]
  refine bQ (fun t' ht'=> ?_) fun e _=>rfl
  rw [bM (by simp;omega),e3,ih (p++[y]) m (acc++[t']) e4 hm' (by simp;omega)]
  simp
theorem P8 (hk:Fu k) (ret:Tm×Int→Option S) (hi:0≤i∧i<24) (hr:RF r) (hd0:0≤d∧d<4611686018427386000) {r1:List Cl×Int} {r2:List Tm×Int} (ht:OkT t) (hro:RowsT t) (hQ: ∀b∈t.sys,∀y∈b.kids,∀g,hd y (d+aw t.kind) i r g=g (tE (ay (aF i r false) (aF i r true) (d+aw t.kind) y))):
  ∀ (r' p:List (Br Tm)) (m:Nat) (o:List (Br Tm)),t.sys=p++r'→r'.length<m→o.length≤p.length→
  ez hd k ret i r t r1 r2 d m (aw t.kind) o (p.length:Int)=eE (ax (aF i r false) (aF i r true) d t.kind r') (fun s=>ret (.mk t.kind t.n t.name r1.1 r2.1 (o++s),0)) fun e=>ret (aK,e):=by
 obtain ⟨o1,o2,o3,o4,o5,o6,o7⟩:=ht.no
 intro r'
 induction r' with
 |nil=>
  intro p m o h hml ho
  obtain ⟨m,rfl,hm'⟩:=ao hml
  simp only [ez,oR,aM h,ac,ax,bp,List.append_nil]
 |cons x r' ih=>
  intro p m o h hml ho
  obtain ⟨m,rfl,hm'⟩:=ao hml
  obtain ⟨e1,e2,e3,e4⟩:=aJ h (by omega)
  have hx:x∈t.sys:=by rw [h];simp
  have hpl:p.length<t.sys.length:=by rw [h];simp
  have hb:=(ht.bi hx).1
  have hr0:=(hro.bi hx).1
  have hM:=fun g:List Tm×Int→Option S=>P7 (kd:=t.kind) hk g hd0 (hQ x hx) hb.2.2 x.kids [] k [] rfl (by have:4294967296≤k:=hk;omega) rfl
  have hM: ∀g:List Tm×Int→Option S,iH hd k g i r (aw t.kind) x.kids d k [] 0=_:=hM
  simp only [ez,oR,e1,ag,e2,Option.bind_some,am hk,Ek hk hr0 hr hi (show 0≤d∧d<4611686018427387000 by omega),tV,xk,hM,e3,List.nil_append]
  have hin:=fun f':List Cl=>rB (β:=Option S) (γ:=Unit) (aS (aF i r false) (aF i r true) d t.kind x.kids) (fun e he=>Gq gn gn he) [] (fun l=>Option.bind (aR 1099511627776 o.length [Br.mk f' l].length) fun _=>ez hd k ret i r t r1 r2 d m (aw t.kind) (o++[Br.mk f' l]) (((p++[x]).length:Nat):Int)) fun e=>ret (aK,e)
  refine Eq.trans (sD (z:=(ja i r true d x.face)) (fun f'=>ab (((f'.length:Nat):Int)==0) (ez hd k ret i r t r1 r2 d m (aw t.kind) o (((p++[x]).length:Nat):Int)) (eE (aS (aF i r false) (aF i r true) d t.kind x.kids) (fun l=>(fun r5:List Tm×Int=>ab (!(r5.2==0)) (ret (aK,r5.2)) (Option.bind (aR 1099511627776 o.length [Br.mk f' r5.1].length) fun _=>ez hd k ret i r t r1 r2 d m (aw t.kind) (o++[Br.mk f' r5.1]) (((p++[x]).length:Nat):Int))) (l,0)) fun e=>(fun r5:List Tm×Int=>ab (!(r5.2==0)) (ret (aK,r5.2)) (Option.bind (aR 1099511627776 o.length [Br.mk f' r5.1].length) fun _=>ez hd k ret i r t r1 r2 d m (aw t.kind) (o++[Br.mk f' r5.1]) (((p++[x]).length:Nat):Int))) ([],e))) fun e=>ret (aK,e)) ?_
  rw [show cm (ja i r true d x.face)=(aF i r true) d x.face from yd _ _ _ _ _]
  rw [ax,yl,aY,aY]
  refine bQ (fun f' hf'=> ?_) fun e _=>rfl
  rw [qY,bW]
  by_cases h0:f'.length=0
  ·rw [if_pos h0,if_pos h0,bp,aY,ih (p++[x]) m o e4 hm' (by simp;omega)]
   exact bQ (fun _ _=>rfl) fun _ _=>rfl
  ·rw [if_neg h0,if_neg h0,hin f',aY]
   refine bQ (fun l hl=> ?_) fun e _=>rfl
   rw [bp,aY,bM (by simp;omega),ih (p++[x]) m (o++[Br.mk f' l]) e4 hm' (by simp;omega)]
   refine bQ (fun s _=> ?_) fun e _=>rfl
   rw [bp];simp
end
theorem Qa {i:Int} {r:List Cl} (hi:0≤i∧i<24) (hr:RF r) (t:Tm):OkT t→RowsT t→ ∀ {k:Nat} {d:Int} (ret:Tm×Int→Option S),Fd k (av t)→0≤d→d+av t<4611686018427386000→c8 k t d i r ret=ret (tE (ay (aF i r false) (aF i r true) d t)):=by
 induction t using fK with
 |h t ih1 ih2=>
  intro ht hro k d ret hk hv hv'
  obtain ⟨q,rfl,hq,hf⟩:=hk.pos' (dV t)
  have hp:=dV t
  have hd0:0≤d∧d<4611686018427386000:=by omega
  obtain ⟨o1,o2,o3,o4,o5,o6,o7⟩:=ht.no
  have hmo:=d4 t.kind
  have hQ: ∀y∈t.kids,∀b,0≤b∧b≤1→ ∀g:Tm×Int→Option S,c8 q y (d+b) i r g=g (tE (ay (aF i r false) (aF i r true) (d+b) y)):=fun y hy b h2 g=>
   ih1 y hy (ht.ki hy) (hro.ki hy) g (hf _ (eu hy)) (by omega) (by have:=eu hy;omega)
  have hQ': ∀b∈t.sys,∀y∈b.kids,∀g:Tm×Int→Option S,c8 q y (d+aw t.kind) i r g=g (tE (ay (aF i r false) (aF i r true) (d+aw t.kind) y)):=fun b hb y hy g=>
   ih2 b hb y hy ((ht.bi hb).2 y hy) ((hro.bi hb).2 y hy) g (hf _ (ep hb hy)) (by omega) (by have:=ep hb hy;omega)
  have hK: ∀g:List Tm×Int→Option S,iJ (c8 q) q g i r t t.kids d q [] 0=_:=fun g=>P6 hq g hd0 hQ o6 t.kids [] q [] rfl (by have:4294967296≤q:=hq;omega) rfl
  have hS:=fun (r1:List Cl×Int) (r2:List Tm×Int)=>P8 (r1:=r1) (r2:=r2) hq ret hi hr hd0 ht hro hQ' t.sys [] q [] rfl (by have:4294967296≤q:=hq;omega) (Nat.le_refl _)
  have hS: ∀ (r1:List Cl×Int) (r2:List Tm×Int),ez (c8 q) q ret i r t r1 r2 d q (aw t.kind) [] 0=_:=hS
  have hcase: ∀ (r1:List Cl×Int) (r2:List Tm×Int),ab (t.kind==15) (ez (c8 q) q ret i r t r1 r2 d q 1 [] 0) (ez (c8 q) q ret i r t r1 r2 d q 0 [] 0)=eE (ax (aF i r false) (aF i r true) d t.kind t.sys) (fun s=>ret (.mk t.kind t.n t.name r1.1 r2.1 s,0)) fun e=>ret (aK,e):=by
   intro r1 r2
   have:=hS r1 r2
   simp only [List.nil_append] at this
   rw [←this,d8]
   unfold aw
   by_cases h15:t.kind=15
   ·rw [if_pos h15,if_pos (by rw [h15];rfl)]
   ·rw [if_neg h15,if_neg (by rw [beq_iff_eq];exact h15)]
  obtain ⟨z,hz,hrow⟩:=P_ hq hi hr hd0 hro (fun r1=>ab (!(r1.2==0)) (ret (aK,r1.2)) (eE (aO (aF i r false) (aF i r true) d t.kind 0 t.kids) (fun l=>(fun r2:List Tm×Int=>ab (!(r2.2==0)) (ret (aK,r2.2)) (eE (ax (aF i r false) (aF i r true) d t.kind t.sys) (fun s=>ret (.mk t.kind t.n t.name r1.1 r2.1 s,0)) fun e=>ret (aK,e))) (l,0)) fun e=>(fun r2:List Tm×Int=>ab (!(r2.2==0)) (ret (aK,r2.2)) (eE (ax (aF i r false) (aF i r true) d t.kind t.sys) (fun s=>ret (.mk t.kind t.n t.name r1.1 r2.1 s,0)) fun e=>ret (aK,e))) ([],e)))
  simp only [c8,xp,am hq,a8,tW,xl,hK,hcase,List.nil_append,List.length_nil]
  refine Eq.trans hrow ?_
  rw [gj _ ret,Gs,←hz]
  refine Eq.trans (sD (z:=z) (fun r'=>eE (aO (aF i r false) (aF i r true) d t.kind 0 t.kids) (fun l=>(fun r2:List Tm×Int=>ab (!(r2.2==0)) (ret (aK,r2.2)) (eE (ax (aF i r false) (aF i r true) d t.kind t.sys) (fun s=>ret (.mk t.kind t.n t.name r' r2.1 s,0)) fun e=>ret (aK,e))) (l,0)) fun e=>(fun r2:List Tm×Int=>ab (!(r2.2==0)) (ret (aK,r2.2)) (eE (ax (aF i r false) (aF i r true) d t.kind t.sys) (fun s=>ret (.mk t.kind t.n t.name r' r2.1 s,0)) fun e=>ret (aK,e))) ([],e)) fun e=>ret (aK,e)) ?_
  rw [aY]
  refine bQ (fun r' _=> ?_) fun e _=>rfl
  refine Eq.trans (rB (β:=Option S) (γ:=Unit) (aO (aF i r false) (aF i r true) d t.kind 0 t.kids) (fun e he=>Gp gn gn he) [] (fun l=>eE (ax (aF i r false) (aF i r true) d t.kind t.sys) (fun s=>ret (.mk t.kind t.n t.name r' l s,0)) fun e=>ret (aK,e)) fun e=>ret (aK,e)) ?_
  simp only [aY,bp]
section
variable {hd:Tm→Int→Int→(Tm×Int→Option S)→Option S} {i d:Int} {t:Tm}
theorem Ks (hk:Fu k) (hi:0≤i∧i<24) (hd0:0≤d∧d<4611686018427386000) (hro:RowsT t) (ret:List Cl×Int→Option S): ∃z:List Cl×Int,cm z=(if t.kind=14 then (ap fun d f=>aG (i+d) f) d t.r else (ap fun d f=>aG (i+d) f) d t.r)∧pN k t d i ret=ret z:=by
 have hr0:=hro.no.1
 simp only [pN,E_,am hk,Ed hk hi (show 0≤d∧d<4611686018427387000 by omega) hr0]
 by_cases h:t.kind=14
 ·rw [h,if_pos rfl,show ((14:Int)==14)=true from rfl,ag]
  exact ⟨_,rfl,rfl⟩
 ·rw [if_neg h,show (t.kind==14)=false from by rw [beq_eq_false_iff_ne];exact h,ac]
  exact ⟨_,rfl,rfl⟩
theorem Kp (hk:Fu k) (ret:List Tm×Int→Option S) (hd0:0≤d∧d<4611686018427386000) (hQ: ∀y∈t.kids,∀b,0≤b∧b≤1→ ∀g,hd y (d+b) i g=g (tE (ay (ap fun d f=>aG (i+d) f) (ap fun d f=>aG (i+d) f) (d+b) y))) (hl:t.kids.length<1073741824):
  ∀ (r' p:List Tm) (m:Nat) (acc:List Tm),t.kids=p++r'→r'.length<m→acc.length=p.length→
  iG hd k ret i t t.kids d m acc (p.length:Int)=eE (aO (ap fun d f=>aG (i+d) f) (ap fun d f=>aG (i+d) f) d t.kind p.length r') (fun l=>ret (acc++l,0)) fun e=>ret ([],e):=by
 intro r'
 induction r' with
 |nil=>
  intro p m acc h hm ha
  obtain ⟨m,rfl,hm'⟩:=ao hm
  simp only [iG,oO,aM h,ac,aO,bp,List.append_nil]
 |cons y r' ih=>
  intro p m acc h hm ha
  obtain ⟨m,rfl,hm'⟩:=ao hm
  obtain ⟨e1,e2,e3,e4⟩:=aJ h (by omega)
  have hpl:p.length<t.kids.length:=by rw [h];simp
  have b2':=fN t.kind p.length
  have hy:=hQ y (by rw [h];simp) (bU t.kind p.length) b2'
  simp only [iG,oO,e1,ag,e2,Option.bind_some,am hk,mN,xm,lM,a8,bL (n:=d+bU t.kind p.length) (by omega) (by omega),hy]
  refine Eq.trans (ou (β:=Unit) _ (fun e he=>je iV iV y he) (fun z=>Option.bind (aR 1099511627776 acc.length [z].length) fun _=>iG hd k ret i t t.kids d m (acc++[z]) (IntKind.wrap .i64 ((p.length:Int)+1))) fun e=>ret ([],e)) ?_
  simp only [aO,aY,bp]
  refine bQ (fun t' ht'=> ?_) fun e _=>rfl
  rw [bM (by simp;omega),e3,ih (p++[y]) m (acc++[t']) e4 hm' (by simp;omega),show (p++[y]).length=p.length+1 by simp]
  simp
theorem Kq (hk:Fu k) (ret:List Tm×Int→Option S) {x:Br Tm} {kd:Int} (hd0:0≤d∧d<4611686018427386000) (hQ: ∀y∈x.kids,∀g,hd y (d+aw kd) i g=g (tE (ay (ap fun d f=>aG (i+d) f) (ap fun d f=>aG (i+d) f) (d+aw kd) y))) (hl:x.kids.length<1073741824):
  ∀ (r' p:List Tm) (m:Nat) (acc:List Tm),x.kids=p++r'→r'.length<m→acc.length=p.length→
  iF hd k ret i (aw kd) x.kids d m acc (p.length:Int)=eE (aS (ap fun d f=>aG (i+d) f) (ap fun d f=>aG (i+d) f) d kd r') (fun l=>ret (acc++l,0)) fun e=>ret ([],e):=by
 have hmo:=d4 kd
 intro r'
 induction r' with
 |nil=>
  intro p m acc h hm ha
  obtain ⟨m,rfl,hm'⟩:=ao hm
  simp only [iF,oN,aM h,ac,aS,bp,List.append_nil]
 |cons y r' ih=>
  intro p m acc h hm ha
  obtain ⟨m,rfl,hm'⟩:=ao hm
  obtain ⟨e1,e2,e3,e4⟩:=aJ h (by omega)
  have hpl:p.length<x.kids.length:=by rw [h];simp
  have hy:=hQ y (by rw [h];simp)
  simp only [iF,oN,e1,ag,e2,Option.bind_some,am hk,mO,xo,a8,bL (n:=d+aw kd) (by omega) (by omega),hy]
  refine Eq.trans (ou (β:=Unit) _ (fun e he=>je iV iV y he) (fun z=>Option.bind (aR 1099511627776 acc.length [z].length) fun _=>iF hd k ret i (aw kd) x.kids d m (acc++[z]) (IntKind.wrap .i64 ((p.length:Int)+1))) fun e=>ret ([],e)) ?_
  simp only [aS,aY,bp]
  refine bQ (fun t' ht'=> ?_) fun e _=>rfl
  rw [bM (by simp;omega),e3,ih (p++[y]) m (acc++[t']) e4 hm' (by simp;omega)]
  simp
theorem Kr (hk:Fu k) (ret:Tm×Int→Option S) (hi:0≤i∧i<24) (hd0:0≤d∧d<4611686018427386000) {r1:List Cl×Int} {r2:List Tm×Int} (ht:OkT t) (hro:RowsT t) (hQ: ∀b∈t.sys,∀y∈b.kids,∀g,hd y (d+aw t.kind) i g=g (tE (ay (ap fun d f=>aG (i+d) f) (ap fun d f=>aG (i+d) f) (d+aw t.kind) y))):
  ∀ (r' p:List (Br Tm)) (m:Nat) (o:List (Br Tm)),t.sys=p++r'→r'.length<m→o.length≤p.length→
  eA hd k ret i t r1 r2 d m (aw t.kind) o (p.length:Int)=eE (ax (ap fun d f=>aG (i+d) f) (ap fun d f=>aG (i+d) f) d t.kind r') (fun s=>ret (.mk t.kind t.n t.name r1.1 r2.1 (o++s),0)) fun e=>ret (aK,e):=by
 obtain ⟨o1,o2,o3,o4,o5,o6,o7⟩:=ht.no
 intro r'
 induction r' with
 |nil=>
  intro p m o h hml ho
  obtain ⟨m,rfl,hm'⟩:=ao hml
  simp only [eA,oS,aM h,ac,ax,bp,List.append_nil]
 |cons x r' ih=>
  intro p m o h hml ho
  obtain ⟨m,rfl,hm'⟩:=ao hml
  obtain ⟨e1,e2,e3,e4⟩:=aJ h (by omega)
  have hx:x∈t.sys:=by rw [h];simp
  have hpl:p.length<t.sys.length:=by rw [h];simp
  have hb:=(ht.bi hx).1
  have hr0:=(hro.bi hx).1
  have hM:=fun g:List Tm×Int→Option S=>Kq (kd:=t.kind) hk g hd0 (hQ x hx) hb.2.2 x.kids [] k [] rfl (by have:4294967296≤k:=hk;omega) rfl
  have hM: ∀g:List Tm×Int→Option S,iF hd k g i (aw t.kind) x.kids d k [] 0=_:=hM
  simp only [eA,oS,e1,ag,e2,Option.bind_some,am hk,Ed hk hi (show 0≤d∧d<4611686018427387000 by omega) hr0,tT,xh,hM,e3,List.nil_append]
  have hin:=fun f':List Cl=>rB (β:=Option S) (γ:=Unit) (aS (ap fun d f=>aG (i+d) f) (ap fun d f=>aG (i+d) f) d t.kind x.kids) (fun e he=>Gq iV iV he) [] (fun l=>Option.bind (aR 1099511627776 o.length [Br.mk f' l].length) fun _=>eA hd k ret i t r1 r2 d m (aw t.kind) (o++[Br.mk f' l]) (((p++[x]).length:Nat):Int)) fun e=>ret (aK,e)
  refine Eq.trans (sD (z:=(aG (i+d) x.face,(0:Int))) (fun f'=>ab (((f'.length:Nat):Int)==0) (eA hd k ret i t r1 r2 d m (aw t.kind) o (((p++[x]).length:Nat):Int)) (eE (aS (ap fun d f=>aG (i+d) f) (ap fun d f=>aG (i+d) f) d t.kind x.kids) (fun l=>(fun r5:List Tm×Int=>ab (!(r5.2==0)) (ret (aK,r5.2)) (Option.bind (aR 1099511627776 o.length [Br.mk f' r5.1].length) fun _=>eA hd k ret i t r1 r2 d m (aw t.kind) (o++[Br.mk f' r5.1]) (((p++[x]).length:Nat):Int))) (l,0)) fun e=>(fun r5:List Tm×Int=>ab (!(r5.2==0)) (ret (aK,r5.2)) (Option.bind (aR 1099511627776 o.length [Br.mk f' r5.1].length) fun _=>eA hd k ret i t r1 r2 d m (aw t.kind) (o++[Br.mk f' r5.1]) (((p++[x]).length:Nat):Int))) ([],e))) fun e=>ret (aK,e)) ?_
  rw [show cm (aG (i+d) x.face,(0:Int))=(ap fun d f=>aG (i+d) f) d x.face from rfl]
  rw [ax,yl,aY,aY]
  refine bQ (fun f' hf'=> ?_) fun e _=>rfl
  rw [qY,bW]
  by_cases h0:f'.length=0
  ·rw [if_pos h0,if_pos h0,bp,aY,ih (p++[x]) m o e4 hm' (by simp;omega)]
   exact bQ (fun _ _=>rfl) fun _ _=>rfl
  ·rw [if_neg h0,if_neg h0,hin f',aY]
   refine bQ (fun l hl=> ?_) fun e _=>rfl
   rw [bp,aY,bM (by simp;omega),ih (p++[x]) m (o++[Br.mk f' l]) e4 hm' (by simp;omega)]
   refine bQ (fun s _=> ?_) fun e _=>rfl
   rw [bp];simp
end
theorem Kt {i:Int} (hi:0≤i∧i<24) (t:Tm):OkT t→RowsT t→ ∀ {k:Nat} {d:Int} (ret:Tm×Int→Option S),Fd k (av t)→0≤d→d+av t<4611686018427386000→cV k t d i ret=ret (tE (ay (ap fun d f=>aG (i+d) f) (ap fun d f=>aG (i+d) f) d t)):=by
 induction t using fK with
 |h t ih1 ih2=>
  intro ht hro k d ret hk hv hv'
  obtain ⟨q,rfl,hq,hf⟩:=hk.pos' (dV t)
  have hp:=dV t
  have hd0:0≤d∧d<4611686018427386000:=by omega
  obtain ⟨o1,o2,o3,o4,o5,o6,o7⟩:=ht.no
  have hmo:=d4 t.kind
  have hQ: ∀y∈t.kids,∀b,0≤b∧b≤1→ ∀g:Tm×Int→Option S,cV q y (d+b) i g=g (tE (ay (ap fun d f=>aG (i+d) f) (ap fun d f=>aG (i+d) f) (d+b) y)):=fun y hy b h2 g=>
   ih1 y hy (ht.ki hy) (hro.ki hy) g (hf _ (eu hy)) (by omega) (by have:=eu hy;omega)
  have hQ': ∀b∈t.sys,∀y∈b.kids,∀g:Tm×Int→Option S,cV q y (d+aw t.kind) i g=g (tE (ay (ap fun d f=>aG (i+d) f) (ap fun d f=>aG (i+d) f) (d+aw t.kind) y)):=fun b hb y hy g=>
   ih2 b hb y hy ((ht.bi hb).2 y hy) ((hro.bi hb).2 y hy) g (hf _ (ep hb hy)) (by omega) (by have:=ep hb hy;omega)
  have hK: ∀g:List Tm×Int→Option S,iG (cV q) q g i t t.kids d q [] 0=_:=fun g=>Kp hq g hd0 hQ o6 t.kids [] q [] rfl (by have:4294967296≤q:=hq;omega) rfl
  have hS:=fun (r1:List Cl×Int) (r2:List Tm×Int)=>Kr (r1:=r1) (r2:=r2) hq ret hi hd0 ht hro hQ' t.sys [] q [] rfl (by have:4294967296≤q:=hq;omega) (Nat.le_refl _)
  have hS: ∀ (r1:List Cl×Int) (r2:List Tm×Int),eA (cV q) q ret i t r1 r2 d q (aw t.kind) [] 0=_:=hS
  have hcase: ∀ (r1:List Cl×Int) (r2:List Tm×Int),ab (t.kind==15) (eA (cV q) q ret i t r1 r2 d q 1 [] 0) (eA (cV q) q ret i t r1 r2 d q 0 [] 0)=eE (ax (ap fun d f=>aG (i+d) f) (ap fun d f=>aG (i+d) f) d t.kind t.sys) (fun s=>ret (.mk t.kind t.n t.name r1.1 r2.1 s,0)) fun e=>ret (aK,e):=by
   intro r1 r2
   have:=hS r1 r2
   simp only [List.nil_append] at this
   rw [←this,d8]
   unfold aw
   by_cases h15:t.kind=15
   ·rw [if_pos h15,if_pos (by rw [h15];rfl)]
   ·rw [if_neg h15,if_neg (by rw [beq_iff_eq];exact h15)]
  obtain ⟨z,hz,hrow⟩:=Ks hq hi hd0 hro (fun r1=>ab (!(r1.2==0)) (ret (aK,r1.2)) (eE (aO (ap fun d f=>aG (i+d) f) (ap fun d f=>aG (i+d) f) d t.kind 0 t.kids) (fun l=>(fun r2:List Tm×Int=>ab (!(r2.2==0)) (ret (aK,r2.2)) (eE (ax (ap fun d f=>aG (i+d) f) (ap fun d f=>aG (i+d) f) d t.kind t.sys) (fun s=>ret (.mk t.kind t.n t.name r1.1 r2.1 s,0)) fun e=>ret (aK,e))) (l,0)) fun e=>(fun r2:List Tm×Int=>ab (!(r2.2==0)) (ret (aK,r2.2)) (eE (ax (ap fun d f=>aG (i+d) f) (ap fun d f=>aG (i+d) f) d t.kind t.sys) (fun s=>ret (.mk t.kind t.n t.name r1.1 r2.1 s,0)) fun e=>ret (aK,e))) ([],e)))
  simp only [cV,xq,am hq,a8,tU,xj,hK,hcase,List.nil_append,List.length_nil]
  refine Eq.trans hrow ?_
  rw [gj _ ret,Gs,←hz]
  refine Eq.trans (sD (z:=z) (fun r'=>eE (aO (ap fun d f=>aG (i+d) f) (ap fun d f=>aG (i+d) f) d t.kind 0 t.kids) (fun l=>(fun r2:List Tm×Int=>ab (!(r2.2==0)) (ret (aK,r2.2)) (eE (ax (ap fun d f=>aG (i+d) f) (ap fun d f=>aG (i+d) f) d t.kind t.sys) (fun s=>ret (.mk t.kind t.n t.name r' r2.1 s,0)) fun e=>ret (aK,e))) (l,0)) fun e=>(fun r2:List Tm×Int=>ab (!(r2.2==0)) (ret (aK,r2.2)) (eE (ax (ap fun d f=>aG (i+d) f) (ap fun d f=>aG (i+d) f) d t.kind t.sys) (fun s=>ret (.mk t.kind t.n t.name r' r2.1 s,0)) fun e=>ret (aK,e))) ([],e)) fun e=>ret (aK,e)) ?_
  rw [aY]
  refine bQ (fun r' _=> ?_) fun e _=>rfl
  refine Eq.trans (rB (β:=Option S) (γ:=Unit) (aO (ap fun d f=>aG (i+d) f) (ap fun d f=>aG (i+d) f) d t.kind 0 t.kids) (fun e he=>Gp iV iV he) [] (fun l=>eE (ax (ap fun d f=>aG (i+d) f) (ap fun d f=>aG (i+d) f) d t.kind t.sys) (fun s=>ret (.mk t.kind t.n t.name r' l s,0)) fun e=>ret (aK,e)) fun e=>ret (aK,e)) ?_
  simp only [aY,bp]
end Go.Proofs.YtapmagaejigpnaaGreatDoor
namespace Go.Proofs.YtapmagaejigpnaaGreatDoor
open Go PI
set_option linter.unusedVariables false
set_option linter.unusedSimpArgs false
set_option maxRecDepth 20000
variable {S:Type} {k:Nat}
def pB (i:Int):Int→List Cl→List Cl:=fun d f=>aG (i+d) f
def aW (i:Int) (r:List Cl) (fa:Bool):ca:=ce (aF i r fa) (pB i)
theorem jI (i:Int) (r:List Cl) (fa:Bool) (d:Int) (f:List Cl):aW i r fa d f=bE (aF i r fa d f) fun m=> .ok (aG (i+d) m):=rfl
theorem zR {i:Int} {r:List Cl} {fa:Bool}: ∀d f e,aW i r fa d f= .error e→0<e∧e≤1000:=fun d f e h=>by
 rw [jI] at h
 rcases ba h with h|⟨_,_,h⟩
 ·exact DK h
 ·cases h
section
variable {hd:Tm→Int→List Cl→Int→Bool→(Tm→Option S)→Option S} {i d:Int} {r:List Cl} {t:Tm}
end
def eZ (i:Int) (r:List Cl) (t:Tm):Except Int Tm:=bE (cm (aP r i 1)) fun s=>ay (aW i s false) (aW i s true) 0 t
theorem SP {i:Int} {r:List Cl} {t:Tm} {e:Int} (h:eZ i r t= .error e):0<e∧e≤1000:=by
 rcases ba h with h|⟨s,_,h⟩
 ·obtain ⟨h1,rfl⟩:=ow h
  have:=rd r i 1
  unfold EN at this;omega
 ·exact je zR zR t h
theorem wI (hk:F3 k) {t:Tm} (ht:Fm t) {i:Int} (hi:0≤i∧i<24) {r:List Cl} (hr:RF r) (ret:Tm×Int→Option S):jz k t i r ret=ret (tE (eZ i r t)):=by
 have l2:=hr.len
 have hdp:=ht.dep
 simp only [jz,E1,am hk.fu,a8,tX,Fa,n8 ht.ok (ht.fd hk) (show av t<1099511627776 by omega),ht.2,Rm hk.fu,lO hk.fu hr.2 hr.lt,hr.right,decide_eq_true hi,oa hk.fu hr.2 (show r.length<1073741824 by omega) (show aI i by unfold aI;omega) (show aI 1 by unfold aI;omega),tP,E4,tQ,E7,tR,E8,tO,E3]
 rw [show ((0:Int)==0)=true from rfl,Bool.not_true,ac,ac,ac,ac]
 rw [gj _ ret]
 unfold eZ
 rw [aY]
 by_cases h0:(aP r i 1).2=0
 ·have hs:=gV h0
  rw [bP,decide_eq_true h0,Bool.not_true,ac,jc h0,bp,Qa hi hs t ht.ok ht.rows _ (ht.fd hk) (by omega) (by omega)]
  refine Eq.trans (ou (α:=Option S) (β:=Unit) _ (fun e he=>je gn gn t he) (fun x=>cV k x 0 i fun r6=>ret (r6.1,r6.2)) fun e=>ret (aK,e)) ?_
  have htw:=TB (fo:=aF i (aP r i 1).1 false) (fa:=aF i (aP r i 1).1 true) (G:=pB i) (fun d f g hf h=>sb hf h) (fun d f hf=>Ki hf) t 0 ht.rows
  show _=eE (ay (ce (aF i (aP r i 1).1 false) (pB i)) (ce (aF i (aP r i 1).1 true) (pB i)) 0 t) _ _
  rw [←htw,aY]
  refine bQ (fun x hx=> ?_) fun e _=>rfl
  have hw:=Gu (fun d f g hf h=>sb hf h) (fun d f g hf h=>sb hf h) (fun d=>DL) t 0 x hx
  obtain ⟨w1,w2,w3,w4⟩:=hw
  obtain ⟨hox,hrx⟩:=w4 ht.ok ht.rows
  rw [Kt hi x hox hrx _ (hk.fd (by omega)) (by omega) (by omega)]
  exact gj _ ret
 ·rw [bP,decide_eq_false h0,Bool.not_false,ag,lS h0];rfl
end Go.Proofs.YtapmagaejigpnaaGreatDoor
namespace Go.Proofs.YtapmagaejigpnaaGreatDoor
open Go PI
set_option linter.unusedVariables false
set_option linter.unusedSimpArgs false
set_option maxRecDepth 20000
variable {S:Type} {k:Nat}
def In (k:Nat) (t:Tm):Prop:=OkT t∧Fd k (av t)∧az t<1073741824
theorem In.dep {t:Tm} (h:In k t):av t<1099511627776:=by have:=qm t;have:=h.2.2;omega
def d9:List Tm→Int
 |[]=>0
 |t::l=>if cz t=0 then d9 l else cz t
theorem EI {l:List Tm} (hl: ∀t∈l,OkT t) (h:d9 l=0): ∀t∈l,Fm t:=by
 induction l with
 |nil=>intro t h;cases h
 |cons x l ih=>
  intro t ht
  unfold d9 at h
  split at h
  ·next h0=>
   rcases List.mem_cons.1 ht with rfl|ht
   ·exact ⟨hl _ (by simp),h0⟩
   ·exact ih (fun t ht=>hl t (by simp [ht])) h t ht
  ·next h0=>exact absurd h h0
theorem oh (c e:Int) (ret:Int→Option S):ff k e c ret=ret (if c=0 then e else c):=by
 simp only [ff,EQ,bP,bW]
 split<;>rfl
theorem Nz (hk:Fu k) (ret:Int→Option S) {l:List Tm} (hl: ∀t∈l,In k t) (hlen:l.length<1000):
  ∀ (r p:List Tm) (m:Nat) (b:Int),l=p++r→r.length<m→kN k ret l m b (p.length:Int)=ret (if b=0 then d9 r else b):=by
 intro r
 induction r with
 |nil=>
  intro p m b h hm
  obtain ⟨m,rfl,hm'⟩:=ao hm
  simp only [kN,oK,aM h,ac,d9]
  split
  ·next h=>rw [h]
  ·rfl
 |cons x r ih=>
  intro p m b h hm
  obtain ⟨m,rfl,hm'⟩:=ao hm
  obtain ⟨e1,e2,e3,e4⟩:=aJ h (by omega)
  have hx:=hl x (by rw [h];simp)
  simp only [kN,oK,e1,ag,e2,Option.bind_some,am hk,a8,n8 hx.1 hx.2.1 hx.dep,oh,e3,ih (p++[x]) m _ e4 hm',d9]
  congr 1
  have:=Mg x
  by_cases hb:b=0
  ·rw [if_pos hb,if_pos hb]
  ·rw [if_neg hb,if_neg hb,if_neg hb]
theorem Rh (hk:F3 k) {l:List Tm} (hl: ∀t∈l,In k t) (hlen:l.length<1000) (ret:Int→Option S):kr k l ret=ret (d9 l):=by
 simp only [kr,w8]
 have:=Nz hk.fu ret hl hlen l [] k 0 rfl (by have:4294968296≤k:=hk;omega)
 exact this
def gD (r:List Cl) (line:Tm):Except Int Tm:=bE (bj 0 2 0 1 line) (eZ 0 r)
theorem yA {r:List Cl} {t:Tm} {e:Int} (h:gD r t= .error e):0<e∧e≤1000:=by
 rcases ba h with h|⟨s,_,h⟩
 ·exact re t h
 ·exact SP h
theorem zS {i:Int} {r:List Cl} {fa:Bool} {d:Int} {f g:List Cl} (hf:RF f) (h:aW i r fa d f= .ok g):RF g:=by
 rw [jI] at h
 obtain ⟨m,h1,h⟩:=aq h
 injection h with h;subst h
 exact yY (sb hf h1).len
theorem uC {i:Int} {r:List Cl} {fa:Bool} (d:Int):aW i r fa d []= .ok []:=by
 rw [jI,DL,ak];rfl
theorem F4 {i:Int} {r:List Cl} {t y:Tm} (h:eZ i r t= .ok y):Wk t y:=by
 obtain ⟨s,_,h⟩:=aq h
 exact Gu (fun d f g hf h=>zS hf h) (fun d f g hf h=>zS hf h) uC t 0 y h
theorem JJ {r:List Cl} {t y:Tm} (ht:Fm t) (h:gD r t= .ok y):OkT y∧RowsT y∧av y≤200∧az y≤20000:=by
 obtain ⟨s,h1,h⟩:=aq h
 have hs:=nu (by omega) ht h1
 obtain ⟨w1,w2,w3,w4⟩:=F4 h
 have h4:=w4 hs.ok hs.rows
 have:=hs.dep;have:=hs.siz
 exact ⟨h4.1,h4.2,by omega,by omega⟩
section
variable {c:Int}
theorem Rg (hc:c≠0) (hk:F3 k) (l:Tm) (r:List Cl) (ret:Tm×Int→Option S):h9 k l r c ret=ret (aK,c):=by
 simp only [h9,w9,am hk.fu,cS,gr,bP,decide_eq_false hc,Bool.not_false,ag];rfl
theorem wQ (hc:c≠0) (hk:F3 k) (l:Tm) (a b:Int) (ret:Tm×Int→Option S):ej k l a b c ret=ret (aK,c):=by
 simp only [ej,xa,am hk.fu,cS,gr,bP,decide_eq_false hc,Bool.not_false,ag];rfl
theorem sf (hc:c≠0) (hk:F3 k) (l:Tm) (ret:Tm×Int×Int→Option S):ei k l c ret=ret (aK,c,c):=by
 simp only [ei,w_,am hk.fu,cS,gr,bP,decide_eq_false hc,Bool.not_false,ag,ac];rfl
end
theorem RP (hk:F3 k) {f:List Cl} (hf:aj f) (hl:f.length<1073741824) (ret:List Cl×Int→Option S):jx k f 0 ret=ret (aP f 0 1):=by
 simp only [jx,ER,am hk.fu,cS,gr,oa hk.fu hf hl (show aI 0 by unfold aI;omega) (show aI 1 by unfold aI;omega),oh,if_true]
 rfl
theorem Ep (hk:F3 k) {t:Tm} (ht:Fm t) {a b:Int} (ha:0≤a∧a≤1000000) (hb:0≤b∧b<9223372036854775808) (ret:Tm×Int→Option S):ej k t a b 0 ret=ret (tE (cQ a b t)):=by
 simp only [ej,xa,am hk.fu,cS,gr,a8,RD hk ht ha hb,oh,if_true]
 rfl
theorem Rf (hk:F3 k) {t:Tm} (ht:Fm t) {r:List Cl} (hr:RF r) (ret:Tm×Int→Option S):h9 k t r 0 ret=ret (tE (gD r t)):=by
 simp only [h9,w9,am hk.fu,cS,gr,a8,RE hk ht (show (0:Int)≤1∧(1:Int)≤24 by omega) (show (0:Int)≤2∧(2:Int)<9223372036854775808 by omega),oh,if_true]
 rw [show ((0:Int)==0)=true from rfl,Bool.not_true,ac,gj _ ret]
 unfold gD
 rw [aY]
 cases hx:bj 0 2 0 1 t with
 |error e=>
  have:=re t hx
  show ab (!(e==0)) (ret (aK,e)) _=_
  rw [bP,decide_eq_false (by omega),Bool.not_false,ag];rfl
 |ok y=>
  have hy:=nu (by omega) ht hx
  show ab (!((0:Int)==0)) _ (jz k y 0 r fun r5=>ret (r5.1,if (0:Int)=0 then r5.2 else 0))=_
  rw [show ((0:Int)==0)=true from rfl,Bool.not_true,ac,wI hk hy (by omega) hr,bp]
  exact gj _ ret
theorem Rq (hk:F3 k) {t:Tm} (ht:In k t) (ret:Tm×Int×Int→Option S):ei k t 0 ret=ret (if cz t=0 then (t,0,0) else (aK,cz t,cz t)):=by
 simp only [ei,w_,am hk.fu,cS,gr,a8,n8 ht.1 ht.2.1 ht.dep,oh,if_true]
 rw [show ((0:Int)==0)=true from rfl,ag,bP]
 by_cases h0:cz t=0
 ·rw [decide_eq_true h0,if_pos h0,Bool.not_true,ac,h0]
 ·rw [decide_eq_false h0,if_neg h0,Bool.not_false,ag];rfl
def gI (x:Except Int Tm):Except Int Tm:=bE x fun t=>if cz t=0 then .ok t else .error (cz t)
theorem SZ {z:List Cl×Int} (hz:EN z.2) {e:Int} (h:cm z= .error e):0<e∧e≤1000:=by
 obtain ⟨h1,rfl⟩:=ow h
 unfold EN at hz;omega
end Go.Proofs.YtapmagaejigpnaaGreatDoor
namespace Go.Proofs.YtapmagaejigpnaaGreatDoor
open Go PI
set_option maxRecDepth 100000
theorem TG {S:Type} (q:Nat) (ret:Bool→Option S):p6 (q+400) ret=ret true:=by kernel_rfl
end Go.Proofs.YtapmagaejigpnaaGreatDoor
namespace Go.Proofs.YtapmagaejigpnaaGreatDoor
open Go PI
set_option linter.unusedVariables false
set_option linter.unusedSimpArgs false
set_option maxRecDepth 20000
variable {S:Type} {k:Nat}
theorem RU (hk:F3 k) (ret:Bool→Option S):p6 k ret=ret true:=by
 obtain ⟨q,rfl⟩: ∃q,k=q+400:=⟨k-400,by have:4294968296≤k:=hk;omega⟩
 exact TG q ret
theorem QP:RF [⟨3,0⟩]:=df ⟨⟨by decide,by decide⟩,by decide,by decide⟩
theorem Pf:aV ⟨0,1⟩:=⟨⟨by decide,by decide⟩,by decide,by decide⟩
end Go.Proofs.YtapmagaejigpnaaGreatDoor
namespace Go.Proofs.YtapmagaejigpnaaGreatDoor
open Go PI
set_option linter.unusedVariables false
set_option linter.unusedSimpArgs false
set_option maxRecDepth 20000
abbrev En:=Nat→Prop
def hp (c:Cl) (j:Nat):Prop:=c.pos.toNat.testBit j=true
def hn (c:Cl) (j:Nat):Prop:=c.neg.toNat.testBit j=true
def bA (c:Cl) (P N:En):Prop:=(∀j,hp c j→P j)∧ ∀j,hn c j→N j
def al (f:List Cl) (P N:En):Prop:= ∃c∈f,bA c P N
theorem Kb {c:Cl} {P N P' N':En} (h:bA c P N) (hP: ∀j,P j→P' j) (hN: ∀j,N j→N' j):bA c P' N':=⟨fun j hj=>hP j (h.1 j hj),fun j hj=>hN j (h.2 j hj)⟩
theorem EA {f:List Cl} {P N P' N':En} (h:al f P N) (hP: ∀j,P j→P' j) (hN: ∀j,N j→N' j):al f P' N':=by
 obtain ⟨c,hc,hs⟩:=h
 exact ⟨c,hc,Kb hs hP hN⟩
theorem BV {x y:Int} (hx:0≤x):dq x y=x↔ ∀j,y.toNat.testBit j=true→x.toNat.testBit j=true:=by
 unfold dq
 constructor
 ·intro h j hj
  have:(x.toNat|||y.toNat)=x.toNat:=by omega
  rw [←this,Nat.testBit_or,hj,Bool.or_true]
 ·intro h
  have:(x.toNat|||y.toNat)=x.toNat:=by
   apply Nat.eq_of_testBit_eq
   intro j
   rw [Nat.testBit_or]
   cases hy:y.toNat.testBit j with
   |false=>rw [Bool.or_false]
   |true=>rw [h j hy];rfl
  rw [this];omega
theorem mC {a b:Cl} (ha:aV a):bt a b=true↔bA b (hp a) (hn a):=by
 unfold bt ck bA hp hn
 rw [decide_eq_true_eq,←BV ha.1.1,←BV ha.2.1]
 cases a
 constructor
 ·intro h;injection h with h1 h2;exact ⟨h1,h2⟩
 ·rintro ⟨h1,h2⟩;simp only at h1 h2 ⊢;rw [h1,h2]
theorem Aj {x y:Int} (hx:0≤x) (hy:0≤y) (h: ∀j,x.toNat.testBit j=true↔y.toNat.testBit j=true):x=y:=by
 have:x.toNat=y.toNat:=by
  apply Nat.eq_of_testBit_eq
  intro j
  rw [Bool.eq_iff_iff]
  exact h j
 omega
theorem yP {a b:Cl} (ha:aV a) (hb:aV b) (h1:bA b (hp a) (hn a)) (h2:bA a (hp b) (hn b)):a=b:=
 Cl.ext' (Aj ha.1.1 hb.1.1 fun j=>⟨h2.1 j,h1.1 j⟩) (Aj ha.2.1 hb.2.1 fun j=>⟨h2.2 j,h1.2 j⟩)
theorem h8 (c:Cl):bA c (hp c) (hn c):=⟨fun _ h=>h,fun _ h=>h⟩
theorem pz {a b:Cl} {P N:En} (h:bA b (hp a) (hn a)) (h':bA a P N):bA b P N:=⟨fun j hj=>h'.1 j (h.1 j hj),fun j hj=>h'.2 j (h.2 j hj)⟩
theorem OZ: ∀ (n:Nat) {l:List Cl} {c:Cl},(l.filter fun d=>bt c d&& !decide (d=c)).length≤n→aj l→c∈l→ ∃d∈cD l,bA d (hp c) (hn c):=by
 intro n
 induction n with
 |zero=>
  intro l c h hl hc
  refine ⟨c,mem_mins.2 ⟨hc, ?_⟩,h8 c⟩
  unfold bv
  rw [List.all_eq_true]
  intro d hd
  have hnil:=List.length_eq_zero_iff.1 (Nat.le_zero.1 h)
  by_cases hdc:d=c
  ·rw [decide_eq_true hdc];rfl
  ·cases hb:bt c d with
   |false=>rw [decide_eq_false hdc];rfl
   |true=>
    have:d∈l.filter fun d=>bt c d&& !decide (d=c):=List.mem_filter.2 ⟨hd,by rw [hb,decide_eq_false hdc];rfl⟩
    rw [hnil] at this;cases this
 |succ n ih=>
  intro l c h hl hc
  by_cases hnd:bv l c=true
  ·exact ⟨c,mem_mins.2 ⟨hc,hnd⟩,h8 c⟩
  ·have: ∃d∈l,d≠c∧bt c d=true:=by
    unfold bv at hnd
    rw [List.all_eq_true] at hnd
    apply Classical.byContradiction
    intro hno
    apply hnd
    intro d hd
    by_cases hdc:d=c
    ·rw [decide_eq_true hdc];rfl
    ·cases hb:bt c d with
     |false=>rw [decide_eq_false hdc];rfl
     |true=>exact absurd ⟨d,hd,hdc,hb⟩ hno
   obtain ⟨d,hd,hdc,hb⟩:=this
   have hbd:=(mC (hl c hc)).1 hb
   have hlt:(l.filter fun e=>bt d e&& !decide (e=d)).length<(l.filter fun e=>bt c e&& !decide (e=c)).length:=by
    have hsub: ∀e∈l,(bt d e&& !decide (e=d))=true→(bt c e&& !decide (e=c))=true:=by
     intro e he h1
     rw [Bool.and_eq_true] at h1 ⊢
     have h2:=(mC (hl d hd)).1 h1.1
     refine ⟨(mC (hl c hc)).2 (pz h2 hbd), ?_⟩
     rw [Bool.not_eq_true',decide_eq_false_iff_not]
     rintro rfl
     have:=yP (hl e he) (hl d hd) hbd h2
     exact hdc this.symm
    have hmem:d∈l.filter fun e=>bt c e&& !decide (e=c):=List.mem_filter.2 ⟨hd,by rw [hb,decide_eq_false hdc];rfl⟩
    have e1:(l.filter fun e=>bt d e&& !decide (e=d))=(l.filter fun e=>bt c e&& !decide (e=c)).filter fun e=>bt d e&& !decide (e=d):=by
     rw [List.filter_filter]
     apply List.filter_congr
     intro e he
     rw [Bool.eq_iff_iff]
     refine ⟨fun h=>by rw [h,hsub e he h];rfl,fun h=> ?_⟩
     generalize (bt d e&& !decide (e=d))=u at h
     cases u with
     |true=>rfl
     |false=>exact absurd h (by simp)
    rw [e1]
    apply List.length_filter_lt_length_iff_exists.2
    exact ⟨d,hmem,by simp⟩
   obtain ⟨e,he,hs⟩:=ih (Nat.le_of_lt_succ (Nat.lt_of_lt_of_le hlt h)) hl hd
   exact ⟨e,he,pz hs hbd⟩
theorem R7 {l:List Cl} (hl:aj l) (P N:En):al (cD l) P N↔al l P N:=by
 constructor
 ·rintro ⟨c,hc,hs⟩;exact ⟨c,(mem_mins.1 hc).1,hs⟩
 ·rintro ⟨c,hc,hs⟩
  obtain ⟨d,hd,hb⟩:=OZ _ (Nat.le_refl _) hl hc
  exact ⟨d,hd,pz hb hs⟩
theorem lP {l:List Cl} (hl:aj l) (h:(aX l).2=0) (P N:En):al (aX l).1 P N↔al l P N:=by
 have:=gU (l:=l) (o:=(aX l).1) (Prod.ext rfl h)
 rw [this.1]
 exact R7 hl P N
theorem RF.mins {f:List Cl} (h:RF f):cD f=f:=(gU h.1).1.symm
theorem Ev {f g:List Cl} (hf:RF f) (hg:RF g) (h1: ∀c∈f,al g (hp c) (hn c)) (h2: ∀c∈g,al f (hp c) (hn c)):f=g:=by
 have key: ∀ {f g:List Cl},RF f→RF g→(∀c∈f,al g (hp c) (hn c))→(∀c∈g,al f (hp c) (hn c))→ ∀c∈f,c∈g:=by
  intro f g hf hg h1 h2 c hc
  obtain ⟨d,hd,hs⟩:=h1 c hc
  obtain ⟨e,he,hs'⟩:=h2 d hd
  have hec:bA e (hp c) (hn c):=pz hs' hs
  have hmin:bv f c=true:=(mem_mins.1 (by rw [hf.mins];exact hc)).2
  unfold bv at hmin
  have:=List.all_eq_true.1 hmin e he
  rw [(mC (hf.2 c hc)).2 hec,Bool.not_true,Bool.or_false,decide_eq_true_eq] at this
  subst this
  have hdc:=yP (hf.2 e hc) (hg.2 d hd) hs hs'
  subst hdc
  exact hd
 have s1:fM f:=by rw [←hf.mins];exact ls _
 have s2:fM g:=by rw [←hg.mins];exact ls _
 exact sn s1 s2 fun c=>⟨key hf hg h1 h2 c,key hg hf h2 h1 c⟩
theorem R2 {f g:List Cl} (hf:RF f) (hg:RF g) (h: ∀P N,al f P N↔al g P N):f=g:=
 Ev hf hg (fun c hc=>(h _ _).1 ⟨c,hc,h8 c⟩) fun c hc=>(h _ _).2 ⟨c,hc,h8 c⟩
def dF (P N:En):Prop:= ∀j,¬ (P j∧N j)
theorem tH {c:Cl} (h:bF c=false):dF (hp c) (hn c):=fun j hj=>calm_bits.1 h j hj
theorem R3 {f g:List Cl} (hf:RFa f) (hg:RFa g) (h: ∀P N,dF P N→(al f P N↔al g P N)):f=g:=
 Ev hf.1 hg.1 (fun c hc=>(h _ _ (tH (hf.2 c hc))).1 ⟨c,hc,h8 c⟩) fun c hc=>(h _ _ (tH (hg.2 c hc))).2 ⟨c,hc,h8 c⟩
theorem RY (f g:List Cl) (P N:En):al (f++g) P N↔al f P N∨al g P N:=by
 unfold al
 constructor
 ·rintro ⟨c,hc,hs⟩
  rcases List.mem_append.1 hc with hc|hc
  ·exact .inl ⟨c,hc,hs⟩
  ·exact .inr ⟨c,hc,hs⟩
 ·rintro (⟨c,hc,hs⟩|⟨c,hc,hs⟩)
  ·exact ⟨c,List.mem_append_left _ hc,hs⟩
  ·exact ⟨c,List.mem_append_right _ hc,hs⟩
theorem oj (P N:En): ¬al [] P N:=by rintro ⟨c,hc,_⟩;cases hc
theorem kc (c:Cl) (P N:En):al [c] P N↔bA c P N:=by
 constructor
 ·rintro ⟨d,hd,hs⟩;simp at hd;subst hd;exact hs
 ·intro h;exact ⟨c,by simp,h⟩
theorem Mt (a b:Cl) (j:Nat):hp (ck a b) j↔hp a j∨hp b j:=by
 unfold hp ck dq
 simp [Nat.testBit_or]
theorem Mq (a b:Cl) (j:Nat):hn (ck a b) j↔hn a j∨hn b j:=by
 unfold hn ck dq
 simp [Nat.testBit_or]
theorem yU (a b:Cl) (P N:En):bA (ck a b) P N↔bA a P N∧bA b P N:=by
 unfold bA
 simp only [Mt,Mq]
 constructor
 ·rintro ⟨h1,h2⟩;exact ⟨⟨fun j h=>h1 j (.inl h),fun j h=>h2 j (.inl h)⟩,fun j h=>h1 j (.inr h),fun j h=>h2 j (.inr h)⟩
 ·rintro ⟨⟨h1,h2⟩,h3,h4⟩;exact ⟨fun j h=>h.elim (h1 j) (h3 j),fun j h=>h.elim (h2 j) (h4 j)⟩
theorem Ez (f g:List Cl) (P N:En):al (meets f g) P N↔al f P N∧al g P N:=by
 unfold al meets
 constructor
 ·rintro ⟨c,hc,hs⟩
  obtain ⟨a,ha,hc⟩:=List.mem_flatMap.1 hc
  obtain ⟨b,hb,rfl⟩:=List.mem_map.1 hc
  have:=(yU a b P N).1 hs
  exact ⟨⟨a,ha,this.1⟩,⟨b,hb,this.2⟩⟩
 ·rintro ⟨⟨a,ha,h1⟩,b,hb,h2⟩
  exact ⟨ck a b,List.mem_flatMap.2 ⟨a,ha,List.mem_map.2 ⟨b,hb,rfl⟩⟩,(yU a b P N).2 ⟨h1,h2⟩⟩
theorem wS {f g:List Cl} (hf:aj f) (hg:aj g) (h:(cM f g).2=0) (P N:En):al (cM f g).1 P N↔al f P N∨al g P N:=
 (lP (fG hf hg) h P N).trans (RY f g P N)
theorem wU {f g:List Cl} (hf:aj f) (hg:aj g) (h:(cY f g).2=0) (P N:En):al (cY f g).1 P N↔al f P N∧al g P N:=
 (lP (ri hf hg) h P N).trans (Ez f g P N)
theorem RZ {l:List Cl} {P N:En} (hc:dF P N):al (co l) P N↔al l P N:=by
 constructor
 ·rintro ⟨c,h,hs⟩;exact ⟨c,(mF h).1,hs⟩
 ·rintro ⟨c,h,hs⟩
  refine ⟨c,List.mem_filter.2 ⟨h, ?_⟩,hs⟩
  unfold jt
  have:bF c=false:=calm_bits.2 fun j hj=>hc j ⟨hs.1 j hj.1,hs.2 j hj.2⟩
  rw [this];rfl
theorem wT {l:List Cl} (hl:aj l) (h:(eC l).2=0) {P N:En} (hc:dF P N):al (eC l).1 P N↔al l P N:=
 (lP (tG hl) h P N).trans (RZ hc)
end Go.Proofs.YtapmagaejigpnaaGreatDoor
namespace Go.Proofs.YtapmagaejigpnaaGreatDoor
open Go PI
set_option linter.unusedVariables false
set_option linter.unusedSimpArgs false
set_option maxRecDepth 20000
theorem wt {c:Cl} (h:RC c) {j:Nat} (hj:hp c j):j<24:=hY (by have:=h.1;omega) hj
theorem ws {c:Cl} (h:RC c) {j:Nat} (hj:hn c j):j<24:=hY (by have:=h.2;omega) hj
theorem qO {s:Int} {n:Nat} (hn:n<24):bY s (n:Int)=s.toNat.testBit n:=by
 unfold bY
 rw [decide_eq_true (show (0:Int)≤(n:Int)∧(n:Int)<24 by omega),Bool.true_and,Int.toNat_natCast]
theorem GC {s:Int} {n:Nat} (hn:n<24) (j:Nat):(dr s (n:Int)).toNat.testBit j=(s.toNat.testBit j&&decide (j<24)&& !decide (j=n)):=by
 unfold dr
 rw [if_pos (by omega),Int.toNat_natCast,Int.toNat_natCast,lu,Nat.testBit_and,hX,Nat.testBit_two_pow]
 congr 2
 rw [Bool.eq_iff_iff,decide_eq_true_eq,decide_eq_true_eq]
 exact eq_comm
def bw (P:En) (n:Nat) (A:Prop):En:=fun j=>(j≠n∧P j)∨(j=n∧A)
theorem yR {c:Cl} (hc:RC c) {n:Nat} (hn24:n<24) (P N:En) (A B:Prop):bA c (bw P n A) (bw N n B)↔bA (bN n c) P N∧(hp c n→A)∧(hn c n→B):=by
 have g1: ∀j,hp (bN n c) j↔hp c j∧j≠n:=fun j=>by
  unfold hp bN
  rw [GC hn24]
  constructor
  ·intro h
   rw [Bool.and_eq_true,Bool.and_eq_true,Bool.not_eq_true',decide_eq_false_iff_not] at h
   exact ⟨h.1.1,h.2⟩
  ·rintro ⟨h1,h2⟩
   rw [h1,decide_eq_true (wt hc h1),decide_eq_false h2];rfl
 have g2: ∀j,hn (bN n c) j↔hn c j∧j≠n:=fun j=>by
  unfold hn bN
  rw [GC hn24]
  constructor
  ·intro h
   rw [Bool.and_eq_true,Bool.and_eq_true,Bool.not_eq_true',decide_eq_false_iff_not] at h
   exact ⟨h.1.1,h.2⟩
  ·rintro ⟨h1,h2⟩
   rw [h1,decide_eq_true (ws hc h1),decide_eq_false h2];rfl
 unfold bA bw
 constructor
 ·rintro ⟨h1,h2⟩
  refine ⟨⟨fun j hj=> ?_,fun j hj=> ?_⟩,fun h=> ?_,fun h=> ?_⟩
  ·obtain ⟨a,b⟩:=(g1 j).1 hj
   rcases h1 j a with h|h
   ·exact h.2
   ·exact absurd h.1 b
  ·obtain ⟨a,b⟩:=(g2 j).1 hj
   rcases h2 j a with h|h
   ·exact h.2
   ·exact absurd h.1 b
  ·rcases h1 n h with h|h
   ·exact absurd rfl h.1
   ·exact h.2
  ·rcases h2 n h with h|h
   ·exact absurd rfl h.1
   ·exact h.2
 ·rintro ⟨⟨h1,h2⟩,h3,h4⟩
  refine ⟨fun j hj=> ?_,fun j hj=> ?_⟩
  ·by_cases he:j=n
   ·subst he;exact .inr ⟨rfl,h3 hj⟩
   ·exact .inl ⟨he,h1 j ((g1 j).2 ⟨hj,he⟩)⟩
  ·by_cases he:j=n
   ·subst he;exact .inr ⟨rfl,h4 hj⟩
   ·exact .inl ⟨he,h2 j ((g2 j).2 ⟨hj,he⟩)⟩
theorem Sb {n:Nat} (hn24:n<24) {r h:List Cl} {c:Cl} (hr:RF r) (hh:RF h) (hc:RC c) (h0:(dc n r h c).2=0) (P N:En):
  al (dc n r h c).1 P N↔al h P N∨bA c (bw P n (al r P N)) (bw N n (al (aZ r).1 P N)):=by
 have og:aj [bN n c]:=fun d hd=>by simp at hd;subst hd;exact (dZ _ _).ok
 rw [yR hc hn24]
 unfold dc at h0 ⊢
 split at h0
 case isFalse ha=>exact absurd h0 ha
 rename_i ha
 rw [if_pos ha]
 split at h0
 case isFalse hb=>exact absurd h0 hb
 rename_i hb
 rw [if_pos hb]
 have ra:=vM hr ha
 have rb:=vN ra hb
 rw [wS hh.2 rb.2 h0]
 refine or_congr Iff.rfl ?_
 have sa:al (de n r c).1 P N↔bA (bN n c) P N∧(hp c n→al r P N):=by
  unfold de at ha ⊢
  rw [qO hn24] at ha ⊢
  by_cases hpn:hp c n
  ·have hpn':c.pos.toNat.testBit n=true:=hpn
   rw [if_pos hpn'] at ha ⊢
   rw [wU og hr.2 ha,kc]
   exact and_congr Iff.rfl ⟨fun h _=>h,fun h=>h hpn⟩
  ·have hpn': ¬c.pos.toNat.testBit n=true:=hpn
   rw [if_neg hpn',kc]
   exact ⟨fun h=>⟨h,fun h'=>absurd h' hpn⟩,fun h=>h.1⟩
 unfold eH at hb ⊢
 rw [qO hn24] at hb ⊢
 by_cases hnn:hn c n
 ·have hnn':c.neg.toNat.testBit n=true:=hnn
  rw [if_pos hnn'] at hb ⊢
  split at hb
  case isFalse hz=>exact absurd hb hz
  rename_i hz
  rw [if_pos hz,wU ra.2 (gf hz).2 hb,sa]
  constructor
  ·rintro ⟨⟨h1,h2⟩,h3⟩;exact ⟨h1,h2,fun _=>h3⟩
  ·rintro ⟨h1,h2,h3⟩;exact ⟨⟨h1,h2⟩,h3 hnn⟩
 ·have hnn': ¬c.neg.toNat.testBit n=true:=hnn
  rw [if_neg hnn',sa]
  constructor
  ·rintro ⟨h1,h2⟩;exact ⟨h1,h2,fun h=>absurd h hnn⟩
  ·rintro ⟨h1,h2,h3⟩;exact ⟨h1,h2⟩
theorem R6 {n:Nat} (hn24:n<24) {r:List Cl} (hr:RF r) (P N:En): ∀ {l h:List Cl},(∀c∈l,RC c)→RF h→(aL (dc n r) h l).2=0→
  (al (aL (dc n r) h l).1 P N↔al h P N∨al l (bw P n (al r P N)) (bw N n (al (aZ r).1 P N))):=by
 intro l
 induction l with
 |nil=>
  intro h _ _ _
  exact ⟨.inl,fun h=>h.elim id fun h=>absurd h (oj _ _)⟩
 |cons c l ih=>
  intro h hl hh h0
  unfold aL at h0 ⊢
  split at h0
  case isFalse h1=>exact absurd h0 h1
  rename_i h1
  rw [if_pos h1,ih (fun d hd=>hl d (by simp [hd])) (rC hr h c hh h1) h0,Sb hn24 hr hh (hl c (by simp)) h1]
  unfold al
  constructor
  ·rintro ((h|h)|⟨d,hd,hs⟩)
   ·exact .inl h
   ·exact .inr ⟨c,by simp,h⟩
   ·exact .inr ⟨d,by simp [hd],hs⟩
  ·rintro (h|⟨d,hd,hs⟩)
   ·exact .inl (.inl h)
   ·rcases List.mem_cons.1 hd with rfl|hd
    ·exact .inl (.inr hs)
    ·exact .inr ⟨d,hd,hs⟩
theorem Sa {n:Nat} (hn24:n<24) {f r:List Cl} (hf:RF f) (hr:RF r) (h:(dB f n r).2=0) (P N:En):
  al (dB f n r).1 P N↔al f (bw P n (al r P N)) (bw N n (al (aZ r).1 P N)):=by
 unfold dB at h ⊢
 rw [hf.right,hr.right,show gH (n:Int)=true from decide_eq_true (by omega)] at h ⊢
 simp only [Bool.and_self,if_true] at h ⊢
 rw [R6 hn24 hr P N (fun c hc=>hf.rc hc) gk h]
 exact ⟨fun h=>h.elim (fun h=>absurd h (oj _ _)) id,.inr⟩
theorem Mu (n:Nat) (hn24:n<24) (j:Nat): ¬hp (nl n) j:=by
 unfold hp nl;simp
theorem Ae (n:Nat) (hn24:n<24) (j:Nat):hn (nl n) j↔j=n:=by
 unfold hn nl
 show (dO 0 (n:Int)).toNat.testBit j=true↔_
 rw [Gx 0 n hn24 j]
 simp
theorem Af (n:Nat) (hn24:n<24) (j:Nat):hp (pl n) j↔j=n:=by
 unfold hp pl
 show (dO 0 (n:Int)).toNat.testBit j=true↔_
 rw [Gx 0 n hn24 j]
 simp
theorem Mr (n:Nat) (hn24:n<24) (j:Nat): ¬hn (pl n) j:=by
 unfold hn pl;simp
theorem R_ {c:Cl} (hc:RC c) (P N:En):al (iX c).1 P N↔ ∃j,(hp c j∧N j)∨(hn c j∧P j):=by
 unfold iX
 rw [lP (fun d hd=>(vH hd).ok) (vI c)]
 have hl: ∀ {s:Int} {x:Int},x∈eU s↔ ∃n:Nat,n<24∧s.toNat.testBit n=true∧x=n:=by
  intro s x
  unfold eU ints
  rw [List.mem_map]
  constructor
  ·rintro ⟨n,hn,rfl⟩
   have:=mem_bitsN.1 hn
   exact ⟨n,this.1,this.2,rfl⟩
  ·rintro ⟨n,h1,h2,rfl⟩
   exact ⟨n,mem_bitsN.2 ⟨h1,h2⟩,rfl⟩
 unfold lv al
 constructor
 ·rintro ⟨d,hd,hs⟩
  rcases List.mem_append.1 hd with hd|hd
  ·obtain ⟨x,hx,rfl⟩:=List.mem_map.1 hd
   obtain ⟨n,h1,h2,rfl⟩:=hl.1 hx
   exact ⟨n,.inl ⟨h2,hs.2 n ((Ae n h1 n).2 rfl)⟩⟩
  ·obtain ⟨x,hx,rfl⟩:=List.mem_map.1 hd
   obtain ⟨n,h1,h2,rfl⟩:=hl.1 hx
   exact ⟨n,.inr ⟨h2,hs.1 n ((Af n h1 n).2 rfl)⟩⟩
 ·rintro ⟨j,⟨h1,h2⟩|⟨h1,h2⟩⟩
  ·have h24:=wt hc h1
   exact ⟨nl j,List.mem_append_left _ (List.mem_map.2 ⟨j,hl.2 ⟨j,h24,h1,rfl⟩,rfl⟩),fun x hx=>absurd hx (Mu j h24 x),fun x hx=>by rw [(Ae j h24 x).1 hx];exact h2⟩
  ·have h24:=ws hc h1
   exact ⟨pl j,List.mem_append_right _ (List.mem_map.2 ⟨j,hl.2 ⟨j,h24,h1,rfl⟩,rfl⟩),fun x hx=>by rw [(Af j h24 x).1 hx];exact h2,fun x hx=>absurd hx (Mr j h24 x)⟩
theorem R5 (P N:En): ∀ {l h:List Cl},(∀c∈l,RC c)→RF h→(aL gc h l).2=0→(al (aL gc h l).1 P N↔al h P N∧ ∀c∈l,∃j,(hp c j∧N j)∨(hn c j∧P j)):=by
 intro l
 induction l with
 |nil=>intro h _ _ _;exact ⟨fun h=>⟨h,fun c hc=>by cases hc⟩,fun h=>h.1⟩
 |cons c l ih=>
  intro h hl hh h0
  unfold aL at h0 ⊢
  split at h0
  case isFalse h1=>exact absurd h0 h1
  rename_i h1
  rw [if_pos h1,ih (fun d hd=>hl d (by simp [hd])) (vE h c hh h1) h0]
  unfold gc at h1 ⊢
  rw [wU hh.2 (nN c).2 h1,R_ (hl c (by simp))]
  constructor
  ·rintro ⟨⟨h2,h3⟩,h4⟩
   exact ⟨h2,fun d hd=>by
    rcases List.mem_cons.1 hd with rfl|hd
    ·exact h3
    ·exact h4 d hd⟩
  ·rintro ⟨h2,h3⟩
   exact ⟨⟨h2,h3 c (by simp)⟩,fun d hd=>h3 d (by simp [hd])⟩
theorem yO (P N:En):bA ⟨0,0⟩ P N:=⟨fun j hj=>by simp [hp] at hj,fun j hj=>by simp [hn] at hj⟩
theorem EB {f:List Cl} (hf:RF f) (h:(aZ f).2=0) (P N:En):al (aZ f).1 P N↔ ∀c∈f,∃j,(hp c j∧N j)∨(hn c j∧P j):=by
 unfold aZ at h ⊢
 rw [R5 P N (fun c hc=>hf.rc hc) (df gZ) h,kc]
 exact ⟨fun h=>h.2,fun h=>⟨yO P N,h⟩⟩
end Go.Proofs.YtapmagaejigpnaaGreatDoor
namespace Go.Proofs.YtapmagaejigpnaaGreatDoor
open Go PI
set_option linter.unusedVariables false
set_option linter.unusedSimpArgs false
set_option maxRecDepth 20000
theorem uH (n:Int) (c:Cl):aj [bN n c]:=fun d hd=>by simp at hd;subst hd;exact (dZ _ _).ok
theorem Kf {P N:En} (h:dF P N) {n:Nat} {A B:Prop} (hab: ¬ (A∧B)):dF (bw P n A) (bw N n B):=by
 rintro j ⟨h1,h2⟩
 rcases h1 with h1|h1
 ·rcases h2 with h2|h2
  ·exact h j ⟨h1.2,h2.2⟩
  ·exact h1.1 h2.1
 ·rcases h2 with h2|h2
  ·exact h2.1 h1.1
  ·exact hab ⟨h1.2,h2.2⟩
theorem R8 {r:List Cl} (hr:RF r) (h:(c_ r).2=0) {P N:En} (hc:dF P N):al (c_ r).1 P N↔al r P N:=by
 unfold c_ at h ⊢
 rw [if_pos hr.right] at h ⊢
 exact wT hr.2 h hc
theorem R9 {r:List Cl} (hr:RF r) (h:(dp r).2=0) {P N:En} (hc:dF P N):al (dp r).1 P N↔al (aZ r).1 P N:=by
 unfold dp at h ⊢
 rw [if_pos hr.right] at h ⊢
 split at h
 case isFalse hz=>exact absurd h hz
 rename_i hz
 rw [if_pos hz]
 exact wT (gf hz).2 h hc
theorem EC {n:Nat} (hn24:n<24) {c:Cl} {h q:List Cl} {e:Int} (hh:RF h) (hq:e=0→RF q) (h0:(cq n c h (q,e)).2=0) {P N:En} (hc:dF P N):
  al (cq n c h (q,e)).1 P N↔al h P N∨(bA (bN n c) P N∧al q P N):=by
 unfold cq at h0 ⊢
 split at h0
 case isFalse h1=>exact absurd h0 h1
 rename_i h1
 rw [if_pos h1]
 split at h0
 case isFalse h2=>exact absurd h0 h2
 rename_i h2
 rw [if_pos h2]
 have rq:=hq h1
 rw [wS hh.2 (lq (uH n c) rq.2 h2).1.2 h0]
 refine or_congr Iff.rfl ?_
 unfold eW at h2 ⊢
 rw [wT (ri (uH n c) rq.2) h2 hc,Ez,kc]
theorem Sd {n:Nat} (hn24:n<24) {r h:List Cl} {c:Cl} (hr:RF r) (hh:RFa h) (hc:RC c) (hcc:bF c=false) (h0:(bV n r h c).2=0) {P N:En} (hC:dF P N):
  al (bV n r h c).1 P N↔al h P N∨bA c (bw P n (al r P N)) (bw N n (al (aZ r).1 P N)):=by
 rw [yR hc hn24]
 have hcl:=calm_bits.1 hcc n
 unfold bV at h0 ⊢
 rw [qO hn24,qO hn24] at h0 ⊢
 by_cases hpn:hp c n
 ·have hpn':c.pos.toNat.testBit n=true:=hpn
  have hnn: ¬hn c n:=fun h=>hcl ⟨hpn,h⟩
  rw [if_pos hpn'] at h0 ⊢
  have e0:(c_ r).2=0:=by
   unfold cq at h0
   split at h0
   ·assumption
   ·next hh=>exact absurd h0 hh
  rw [show c_ r=((c_ r).1,(c_ r).2) from rfl] at h0 ⊢
  rw [EC hn24 hh.1 (fun e=>(rl e hr.2).1) h0 hC,R8 hr e0 hC]
  refine or_congr Iff.rfl ⟨fun h=>⟨h.1,fun _=>h.2,fun h'=>absurd h' hnn⟩,fun h=>⟨h.1,h.2.1 hpn⟩⟩
 ·have hpn': ¬c.pos.toNat.testBit n=true:=hpn
  rw [if_neg hpn'] at h0 ⊢
  by_cases hnn:hn c n
  ·have hnn':c.neg.toNat.testBit n=true:=hnn
   rw [if_pos hnn'] at h0 ⊢
   have e0:(dp r).2=0:=by
    unfold cq at h0
    split at h0
    ·assumption
    ·next hh=>exact absurd h0 hh
   rw [show dp r=((dp r).1,(dp r).2) from rfl] at h0 ⊢
   rw [EC hn24 hh.1 (fun e=>(rm e hr.2).1) h0 hC,R9 hr e0 hC]
   refine or_congr Iff.rfl ⟨fun h=>⟨h.1,fun h'=>absurd h' hpn,fun _=>h.2⟩,fun h=>⟨h.1,h.2.2 hnn⟩⟩
  ·have hnn': ¬c.neg.toNat.testBit n=true:=hnn
   rw [if_neg hnn'] at h0 ⊢
   rw [wS hh.1.2 (uH n c) h0,kc]
   refine or_congr Iff.rfl ⟨fun h=>⟨h,fun h'=>absurd h' hpn,fun h'=>absurd h' hnn⟩,fun h=>h.1⟩
theorem R4 {n:Nat} (hn24:n<24) {r:List Cl} (hr:RF r) {P N:En} (hC:dF P N): ∀ {l h:List Cl},(∀c∈l,RC c)→(∀c∈l,bF c=false)→RFa h→(aL (bV n r) h l).2=0→
  (al (aL (bV n r) h l).1 P N↔al h P N∨al l (bw P n (al r P N)) (bw N n (al (aZ r).1 P N))):=by
 intro l
 induction l with
 |nil=>
  intro h _ _ _ _
  exact ⟨.inl,fun h=>h.elim id fun h=>absurd h (oj _ _)⟩
 |cons c l ih=>
  intro h hl hcl hh h0
  unfold aL at h0 ⊢
  split at h0
  case isFalse h1=>exact absurd h0 h1
  rename_i h1
  rw [if_pos h1,ih (fun d hd=>hl d (by simp [hd])) (fun d hd=>hcl d (by simp [hd])) (BY hr hh (hcl c (by simp)) h1) h0,Sd hn24 hr hh (hl c (by simp)) (hcl c (by simp)) h1 hC]
  unfold al
  constructor
  ·rintro ((h|h)|⟨d,hd,hs⟩)
   ·exact .inl h
   ·exact .inr ⟨c,by simp,h⟩
   ·exact .inr ⟨d,by simp [hd],hs⟩
  ·rintro (h|⟨d,hd,hs⟩)
   ·exact .inl (.inl h)
   ·rcases List.mem_cons.1 hd with rfl|hd
    ·exact .inl (.inr hs)
    ·exact .inr ⟨d,hd,hs⟩
theorem Sc {n:Nat} (hn24:n<24) {f r:List Cl} (hf:RFa f) (hr:RF r) (h:(dA f n r).2=0) {P N:En} (hC:dF P N):
  al (dA f n r).1 P N↔al f (bw P n (al r P N)) (bw N n (al (aZ r).1 P N)):=by
 unfold dA at h ⊢
 rw [hf.right,hr.right,show gH (n:Int)=true from decide_eq_true (by omega)] at h ⊢
 simp only [Bool.and_self,if_true] at h ⊢
 rw [R4 hn24 hr hC (fun c hc=>hf.1.rc hc) hf.2 ww h]
 exact ⟨fun h=>h.elim (fun h=>absurd h (oj _ _)) id,.inr⟩
def dk (n x:Nat):Nat:=if n<x then x-1 else x
def lU (P:En) (n:Nat):En:=fun x=>x=n∨P (dk n x)
theorem qn {s:Int} {n:Nat} (hn24:n<24) (h:0≤s∧s<16777216) (y:Nat):(iw s (n:Int)).toNat.testBit y=true↔ ∃x,s.toNat.testBit x=true∧x≠n∧dk n x=y:=by
 have hs:s.toNat<16777216:=by omega
 have hM:s.toNat&&&M24=s.toNat:=by
  apply Nat.eq_of_testBit_eq
  intro j
  rw [Nat.testBit_and,hX]
  cases hj:s.toNat.testBit j with
  |false=>rfl
  |true=>rw [decide_eq_true (hY hs hj)];rfl
 unfold iw
 rw [Int.toNat_natCast]
 unfold it
 rw [if_pos (by omega),Int.toNat_natCast,hM,Nat.testBit_or,tA,Nat.testBit_mul_two_pow,Nat.testBit_div_two_pow,Bool.or_eq_true,Bool.and_eq_true,Bool.and_eq_true,decide_eq_true_eq,decide_eq_true_eq]
 unfold dk
 constructor
 ·rintro (⟨h1,h2⟩|⟨h1,h2⟩)
  ·exact ⟨y,h1,by omega,if_neg (by omega)⟩
  ·rw [show y-n+(n+1)=y+1 by omega] at h2
   exact ⟨y+1,h2,by omega,by rw [if_pos (by omega)];omega⟩
 ·rintro ⟨x,h1,h2,h3⟩
  have:=hY hs h1
  split at h3
  ·refine .inr ⟨by omega, ?_⟩
   rw [show y-n+(n+1)=x by omega];exact h1
  ·subst h3;exact .inl ⟨h1,by omega,by omega⟩
theorem yQ {c:Cl} (hc:RC c) {n:Nat} (hn24:n<24) (P N:En):bA (dv n c) P N↔bA c (lU P n) (lU N n):=by
 unfold bA lU
 have h1: ∀y,hp (dv n c) y↔ ∃x,hp c x∧x≠n∧dk n x=y:=fun y=>qn hn24 hc.1 y
 have h2: ∀y,hn (dv n c) y↔ ∃x,hn c x∧x≠n∧dk n x=y:=fun y=>qn hn24 hc.2 y
 constructor
 ·rintro ⟨a,b⟩
  refine ⟨fun x hx=> ?_,fun x hx=> ?_⟩
  ·by_cases he:x=n
   ·exact .inl he
   ·exact .inr (a _ ((h1 _).2 ⟨x,hx,he,rfl⟩))
  ·by_cases he:x=n
   ·exact .inl he
   ·exact .inr (b _ ((h2 _).2 ⟨x,hx,he,rfl⟩))
 ·rintro ⟨a,b⟩
  refine ⟨fun y hy=> ?_,fun y hy=> ?_⟩
  ·obtain ⟨x,hx,he,rfl⟩:=(h1 y).1 hy
   exact (a x hx).resolve_left he
  ·obtain ⟨x,hx,he,rfl⟩:=(h2 y).1 hy
   exact (b x hx).resolve_left he
theorem R1 {f:List Cl} (hf:RF f) {n:Nat} (hn24:n<24) (P N:En):al (aG n f) P N↔al f (lU P n) (lU N n):=by
 have h0:(aX (f.map (dv n))).2=0:=by rw [mH hf.len]
 unfold aG
 rw [lP (fun c hc=>(pC _ _ c hc).ok) h0]
 unfold al
 constructor
 ·rintro ⟨c,hc,hs⟩
  obtain ⟨d,hd,rfl⟩:=List.mem_map.1 hc
  exact ⟨d,hd,(yQ (hf.rc hd) hn24 P N).1 hs⟩
 ·rintro ⟨d,hd,hs⟩
  exact ⟨dv n d,List.mem_map.2 ⟨d,hd,rfl⟩,(yQ (hf.rc hd) hn24 P N).2 hs⟩
theorem AM {s:Int} {n b:Nat} (h:0≤s∧s<16777216) (h0:(bG s n b).2=0) (y:Nat):(bG s n b).1.toNat.testBit y=true↔ ∃x,s.toNat.testBit x=true∧a6 n b x=y:=by
 have hs:s.toNat<16777216:=by omega
 unfold bG at h0 ⊢
 rw [if_neg (by omega)] at h0 ⊢
 simp only [Int.toNat_natCast] at h0 ⊢
 rw [AI] at h0 ⊢
 split at h0
 ·exact absurd h0 (by decide)
 ·rename_i hno
  rw [if_neg hno]
  have hnd:((dH s.toNat).map (a6 n b)).Nodup:=by
   have: ∀x y,a6 n b x=a6 n b y→x=y:=by
    intro x y h;unfold a6 at h;split at h<;>split at h<;>omega
   exact List.Pairwise.map (S:=fun a b=>a≠b) (R:=fun a b=>a≠b) _ (fun x y hxy h=>hxy (this x y h)) (tB _)
  show (g5 ((dH s.toNat).map (a6 n b))).testBit y=true↔_
  rw [wY _ hnd,decide_eq_true_eq,List.mem_map]
  constructor
  ·rintro ⟨x,hx,rfl⟩;exact ⟨x,(mem_bitsN.1 hx).2,rfl⟩
  ·rintro ⟨x,hx,rfl⟩;exact ⟨x,mem_bitsN.2 ⟨hY hs hx,hx⟩,rfl⟩
theorem Oz {c:Cl} {n b:Nat} (h0:(b7 c n b).2=0):(bG c.pos n b).2=0∧(bG c.neg n b).2=0∧(b7 c n b).1=⟨(bG c.pos n b).1,(bG c.neg n b).1⟩:=by
 unfold b7 at h0 ⊢
 split at h0
 case isFalse=>exact absurd h0 (by decide)
 rename_i hr
 rw [if_pos hr]
 split at h0
 case isFalse h1=>exact absurd h0 h1
 rename_i h1
 rw [if_pos h1]
 split at h0
 case isFalse h2=>exact absurd h0 h2
 rename_i h2
 rw [if_pos h2]
 exact ⟨h1,h2,rfl⟩
theorem yT {c:Cl} (hc:RC c) {n b:Nat} (h0:(b7 c n b).2=0) (P N:En):bA (b7 c n b).1 P N↔bA c (fun x=>P (a6 n b x)) fun x=>N (a6 n b x):=by
 obtain ⟨h1,h2,h3⟩:=Oz h0
 rw [h3]
 have e1: ∀y,hp ⟨(bG c.pos n b).1,(bG c.neg n b).1⟩ y↔ ∃x,hp c x∧a6 n b x=y:=fun y=>AM hc.1 h1 y
 have e2: ∀y,hn ⟨(bG c.pos n b).1,(bG c.neg n b).1⟩ y↔ ∃x,hn c x∧a6 n b x=y:=fun y=>AM hc.2 h2 y
 unfold bA
 constructor
 ·rintro ⟨a,b⟩
  exact ⟨fun x hx=>a _ ((e1 _).2 ⟨x,hx,rfl⟩),fun x hx=>b _ ((e2 _).2 ⟨x,hx,rfl⟩)⟩
 ·rintro ⟨a,b⟩
  refine ⟨fun y hy=> ?_,fun y hy=> ?_⟩
  ·obtain ⟨x,hx,rfl⟩:=(e1 y).1 hy;exact a x hx
  ·obtain ⟨x,hx,rfl⟩:=(e2 y).1 hy;exact b x hx
theorem Mc {n b:Nat}: ∀ {l h:List Cl},(aL (cO n b) h l).2=0→(aL (cO n b) h l).1=h++l.map (fun c=>(b7 c n b).1)∧ ∀c∈l,(b7 c n b).2=0:=by
 intro l
 induction l with
 |nil=>intro h _;exact ⟨by simp [aL],fun c hc=>by cases hc⟩
 |cons c l ih=>
  intro h h0
  unfold aL at h0 ⊢
  split at h0
  case isFalse h1=>exact absurd h0 h1
  rename_i h1
  rw [if_pos h1]
  obtain ⟨e1,e2⟩:=ih h0
  refine ⟨by rw [e1];simp [cO],fun d hd=> ?_⟩
  rcases List.mem_cons.1 hd with rfl|hd
  ·exact h1
  ·exact e2 d hd
theorem Ey {f:List Cl} (hf:RF f) {n b:Nat} (h:(aP f n b).2=0) (P N:En):al (aP f n b).1 P N↔al f (fun x=>P (a6 n b x)) fun x=>N (a6 n b x):=by
 unfold aP at h ⊢
 rw [if_pos hf.right] at h ⊢
 split at h
 case isFalse h1=>exact absurd h h1
 rename_i h1
 rw [if_pos h1]
 obtain ⟨e1,e2⟩:=Mc h1
 have hok:=(qL (i:=(n:Int)) (b:=(b:Int)) (r:=f) (h:=[]) fun c hc=>by cases hc).1
 rw [lP hok h,e1,List.nil_append]
 unfold al
 constructor
 ·rintro ⟨c,hc,hs⟩
  obtain ⟨d,hd,rfl⟩:=List.mem_map.1 hc
  exact ⟨d,hd,(yT (hf.rc hd) (e2 d hd) P N).1 hs⟩
 ·rintro ⟨d,hd,hs⟩
  exact ⟨_,List.mem_map.2 ⟨d,hd,rfl⟩,(yT (hf.rc hd) (e2 d hd) P N).2 hs⟩
end Go.Proofs.YtapmagaejigpnaaGreatDoor
namespace Go.Proofs.YtapmagaejigpnaaGreatDoor
open Go PI
set_option linter.unusedVariables false
set_option linter.unusedSimpArgs false
set_option maxRecDepth 20000
def Cq (fa:Bool) (P N:En):Prop:=fa=true→dF P N
def RX (fa:Bool) (f:List Cl):Prop:=RF f∧(fa=true→ ∀c∈f,bF c=false)
theorem wR {fa:Bool} {f g:List Cl} (hf:RX fa f) (hg:RX fa g) (h: ∀P N,Cq fa P N→(al f P N↔al g P N)):f=g:=by
 cases fa
 ·exact R2 hf.1 hg.1 fun P N=>h P N fun h=>by cases h
 ·exact R3 ⟨hf.1,hf.2 rfl⟩ ⟨hg.1,hg.2 rfl⟩ fun P N hc=>h P N fun _=>hc
def eI (fa:Bool) (f:List Cl) (i:Int) (r:List Cl):List Cl×Int:=if fa then dA f i r else dB f i r
theorem B3 {fa:Bool} {f r:List Cl} {i:Int} (hf:aj f) (hr:aj r) (h:(eI fa f i r).2=0):RX fa (eI fa f i r).1:=by
 unfold eI at h ⊢
 cases fa
 ·exact ⟨B2 hr h,fun h=>by cases h⟩
 ·have:=B1 hf hr h
  exact ⟨this.1,fun _=>this.2⟩
theorem wV {fa:Bool} {n:Nat} (hn:n<24) {f r:List Cl} (hf:RX fa f) (hr:RF r) (h:(eI fa f n r).2=0) {P N:En} (hC:Cq fa P N):
  al (eI fa f n r).1 P N↔al f (bw P n (al r P N)) (bw N n (al (aZ r).1 P N)):=by
 unfold eI at h ⊢
 cases fa
 ·exact Sa hn hf.1 hr h P N
 ·exact Sc hn ⟨hf.1,hf.2 rfl⟩ hr h (hC rfl)
def cW (f:List Cl) (n:Nat):Prop:= ∀c∈f,¬hp c n∧ ¬hn c n
def same (n:Nat) (P P':En):Prop:= ∀j,j≠n→(P j↔P' j)
theorem yS {c:Cl} {n:Nat} (h: ¬hp c n∧ ¬hn c n) {P N P' N':En} (hP:same n P P') (hN:same n N N') (hs:bA c P N):bA c P' N':=
 ⟨fun j hj=>(hP j (fun e=>h.1 (e▸hj))).1 (hs.1 j hj),fun j hj=>(hN j (fun e=>h.2 (e▸hj))).1 (hs.2 j hj)⟩
theorem same.symm {n:Nat} {P P':En} (h:same n P P'):same n P' P:=fun j hj=>(h j hj).symm
theorem si {f:List Cl} {n:Nat} (h:cW f n) {P N P' N':En} (hP:same n P P') (hN:same n N N'):al f P N↔al f P' N':=
 ⟨fun ⟨c,hc,hs⟩=>⟨c,hc,yS (h c hc) hP hN hs⟩,fun ⟨c,hc,hs⟩=>⟨c,hc,yS (h c hc) hP.symm hN.symm hs⟩⟩
theorem qX {fa:Bool} {f:List Cl} {n:Nat} (hf:RX fa f) (h: ∀P N P' N',Cq fa P N→Cq fa P' N'→same n P P'→same n N N'→al f P N→al f P' N'):cW f n:=by
 intro c hc
 have hcon: ∀P' N':En,(∀j,P' j→hp c j)→(∀j,N' j→hn c j)→Cq fa P' N':=fun P' N' h1 h2 e j hj=>tH (hf.2 e c hc) j ⟨h1 j hj.1,h2 j hj.2⟩
 obtain ⟨d,hd,hs⟩:=h (hp c) (hn c) (fun j=>j≠n∧hp c j) (fun j=>j≠n∧hn c j) (hcon _ _ (fun _ h=>h) fun _ h=>h) (hcon _ _ (fun _ h=>h.2) fun _ h=>h.2)
  (fun j hj=>⟨fun h=>⟨hj,h⟩,fun h=>h.2⟩) (fun j hj=>⟨fun h=>⟨hj,h⟩,fun h=>h.2⟩) ⟨c,hc,h8 c⟩
 have hmin:bv f c=true:=(mem_mins.1 (by rw [hf.1.mins];exact hc)).2
 unfold bv at hmin
 have:=List.all_eq_true.1 hmin d hd
 rw [(mC (hf.1.2 c hc)).2 ⟨fun j hj=>(hs.1 j hj).2,fun j hj=>(hs.2 j hj).2⟩,Bool.not_true,Bool.or_false,decide_eq_true_eq] at this
 subst this
 exact ⟨fun h=>(hs.1 n h).1 rfl,fun h=>(hs.2 n h).1 rfl⟩
theorem Gm (P:En) (n:Nat) (A:Prop):same n P (bw P n A):=fun j hj=>⟨fun h=> .inl ⟨hj,h⟩,fun h=>h.elim (fun h=>h.2) fun h=>absurd h.1 hj⟩
theorem sG {P P':En} {n:Nat} {A A':Prop} (h:same n P P') (ha:A↔A'): ∀j,bw P n A j↔bw P' n A' j:=by
 intro j
 unfold bw
 by_cases hj:j=n
 ·subst hj;simp [ha]
 ·simp only [hj,ne_eq,not_false_eq_true,true_and,false_and,or_false];exact h j hj
theorem oi {f:List Cl} {P N P' N':En} (hP: ∀j,P j↔P' j) (hN: ∀j,N j↔N' j):al f P N↔al f P' N':=
 ⟨fun h=>EA h (fun j=>(hP j).1) fun j=>(hN j).1,fun h=>EA h (fun j=>(hP j).2) fun j=>(hN j).2⟩
theorem O7 {r:List Cl} {n:Nat} (hr:RF r) (h0:(aZ r).2=0) (h:cW r n):cW (aZ r).1 n:=by
 refine qX (fa:=false) ⟨gf h0,fun h=>by cases h⟩ fun P N P' N' _ _ hP hN hs=> ?_
 rw [EB hr h0] at hs ⊢
 intro c hc
 obtain ⟨j,hj⟩:=hs c hc
 refine ⟨j,hj.imp (fun h'=>⟨h'.1,(hN j fun e=>(h c hc).1 (e▸h'.1)).1 h'.2⟩) fun h'=>⟨h'.1,(hP j fun e=>(h c hc).2 (e▸h'.1)).1 h'.2⟩⟩
theorem P9 {fa:Bool} {n:Nat} (hn:n<24) {f r:List Cl} (hf:RX fa f) (hr:RF r) (hl:cW r n) (hz:(aZ r).2=0) (h:(eI fa f n r).2=0):cW (eI fa f n r).1 n:=by
 refine qX (B3 hf.1.2 hr.2 h) fun P N P' N' hC hC' hP hN hs=> ?_
 rw [wV hn hf hr h hC] at hs
 rw [wV hn hf hr h hC']
 exact (oi (sG hP (si hl hP hN)) (sG hN (si (O7 hr hz hl) hP hN))).1 hs
def cj (P:En) (n:Nat):En:=fun x=>x≠n∧P (dk n x)
theorem Gc (P:En) (n:Nat):same n (lU P n) (cj P n):=fun j hj=>⟨fun h=>h.elim (fun h=>absurd h hj) fun h=>⟨hj,h⟩,fun h=> .inr h.2⟩
theorem Ke {P N:En} (h:dF P N) (n:Nat):dF (cj P n) (cj N n):=fun j hj=>h _ ⟨hj.1.2,hj.2.2⟩
theorem yW {fa:Bool} {P N:En} (h:Cq fa P N) (n:Nat):Cq fa (cj P n) (cj N n):=fun e=>Ke (h e) n
theorem sh {f:List Cl} (hf:RF f) {n:Nat} (hn24:n<24) (hl:cW f n) (P N:En):al (aG n f) P N↔al f (cj P n) (cj N n):=
 (R1 hf hn24 P N).trans (si hl (Gc P n) (Gc N n))
theorem pD {fa:Bool} {f:List Cl} (hf:RX fa f) {n:Nat} (hn24:n<24) (hl:cW f n):RX fa (aG n f):=by
 refine ⟨yY hf.1.len,fun e c hc=> ?_⟩
 have hm:c∈f.map (dv n):=by
  have:=(gU (mH (j:=n) hf.1.len)).1
  rw [this] at hc
  exact (mem_mins.1 hc).1
 obtain ⟨d,hd,rfl⟩:=List.mem_map.1 hm
 refine calm_bits.2 fun j hj=> ?_
 obtain ⟨x,hx,hxn,h1⟩:=(qn hn24 (hf.1.rc hd).1 j).1 hj.1
 obtain ⟨y,hy,hyn,h2⟩:=(qn hn24 (hf.1.rc hd).2 j).1 hj.2
 have:x=y:=by unfold dk at h1 h2;split at h1<;>split at h2<;>omega
 subst this
 exact calm_bits.1 (hf.2 e d hd) x ⟨hx,hy⟩
theorem To {f:List Cl} {n:Nat}:kg f n=true↔ ¬cW f n:=by
 unfold kg cW hp hn
 rw [List.any_eq_true]
 constructor
 ·rintro ⟨c,hc,h⟩ hl
  rw [Bool.or_eq_true] at h
  exact h.elim (hl c hc).1 (hl c hc).2
 ·intro h
  apply Classical.byContradiction
  intro hno
  refine h fun c hc=>⟨fun h'=>hno ⟨c,hc,by rw [h'];rfl⟩,fun h'=>hno ⟨c,hc,by rw [h',Bool.or_true]⟩⟩
theorem has_dims {f:List Cl} {n:Nat}:bY (dW f) (n:Int)=true↔n<24∧ ¬cW f n:=by
 unfold bY dW
 rw [Int.toNat_natCast,Int.toNat_natCast,zh,Bool.and_eq_true,Bool.and_eq_true,decide_eq_true_eq,decide_eq_true_eq,To]
 constructor
 ·exact fun h=>⟨h.2.2,h.2.1⟩
 ·exact fun h=>⟨by omega,h.2,h.1⟩
theorem Ew {fa:Bool} {r f g:List Cl} {n:Nat} (hn24:n<24) (hf:RX fa f) {A B:En→En→Prop}
  (hs: ¬cW f n→ ∀s,cm (aP r 0 n)= .ok s→cW s n∧(aZ s).2=0∧ ∀P N,(al s P N↔A P N)∧(al (aZ s).1 P N↔B P N)) (h:aW 0 r fa n f= .ok g):
  RX fa g∧ ∀P N,Cq fa P N→(al g P N↔al f (bw (cj P n) n (A (cj P n) (cj N n))) (bw (cj N n) n (B (cj P n) (cj N n)))):=by
 rw [jI] at h
 obtain ⟨m,h1,h⟩:=aq h
 injection h with h;subst h
 unfold aF at h1
 rw [Int.zero_add] at h1 ⊢
 by_cases hl:cW f n
 ·rw [if_neg (fun h'=>(has_dims.1 h').2 hl)] at h1
  injection h1 with h1;subst h1
  refine ⟨pD hf hn24 hl,fun P N hC=> ?_⟩
  rw [sh hf.1 hn24 hl]
  exact si hl (Gm _ _ _) (Gm _ _ _)
 ·rw [if_pos (has_dims.2 ⟨hn24,hl⟩)] at h1
  obtain ⟨s,es,h1⟩:=aq h1
  obtain ⟨hsl,hsz,hAB⟩:=hs hl s es
  have rs:RF s:=by obtain ⟨h0,rfl⟩:=fL es;exact gV h0
  obtain ⟨h2,rfl⟩:=fL h1
  have h3:(eI fa f n s).2=0:=h2
  have rp:=B3 hf.1.2 rs.2 h3
  have lp:=P9 hn24 hf rs hsl hsz h3
  refine ⟨pD rp hn24 lp,fun P N hC=> ?_⟩
  show al (aG n (eI fa f n s).1) P N↔_
  rw [sh rp.1 hn24 lp,wV hn24 hf rs h3 (yW hC n)]
  exact oi (sG (fun _ _=>Iff.rfl) (hAB _ _).1) (sG (fun _ _=>Iff.rfl) (hAB _ _).2)
end Go.Proofs.YtapmagaejigpnaaGreatDoor
namespace Go.Proofs.YtapmagaejigpnaaGreatDoor
open Go PI
set_option linter.unusedVariables false
set_option linter.unusedSimpArgs false
set_option maxRecDepth 20000
theorem Kh {f:List Cl} (hf:RF f) {i:Int} (hi:24≤i):aG i f=f:=by
 have: ∀c∈f,dv i c=c:=fun c hc=>by
  obtain ⟨p,q⟩:=c
  obtain ⟨h1,h2⟩:=hf.rc hc
  simp only at h1 h2
  unfold dv iw it
  rw [if_neg (by omega),if_neg (by omega)]
  simp only
  rw [yx (by omega),yx (by omega)]
  congr 1<;>omega
 unfold aG
 rw [show f.map (dv i)=f from (List.map_congr_left this).trans (List.map_id f),hf.1]
theorem qJ {fa:Bool} {r f:List Cl} {d:Int} (h:bY (dW f) d=false):aW 0 r fa d f= .ok (aG d f):=by
 rw [jI];unfold aF;rw [Int.zero_add,if_neg (by rw [h];decide),ak]
theorem Mp {f:List Cl} {d:Int} (hd:24≤d):bY (dW f) d=false:=by
 unfold bY;rw [decide_eq_false (by omega),Bool.false_and]
theorem uB {fa:Bool} {r f:List Cl} (hf:RF f) {d:Int} (hd:24≤d):aW 0 r fa d f= .ok f:=by
 rw [qJ (Mp hd),Kh hf hd]
theorem Ad {f:List Cl} {n:Nat} (h:cW f n):bY (dW f) n=false:=by
 rw [Bool.eq_false_iff];exact fun h'=>(has_dims.1 h').2 h
theorem D6 {fa:Bool} {f g:List Cl} {d b:Int} (hf:RX fa f) (h:bB d b f= .ok g):RX fa g:=
 ⟨n1 hf.1 h,fun e c hc=>by
  have:=DF (List.all_eq_true.2 fun c hc=>by rw [hf.2 e c hc];rfl) h
  have:=List.all_eq_true.1 this c hc
  simpa using this⟩
theorem wW {f g:List Cl} (hf:RF f) {n b:Nat} (hn:n<24) (hb:b≠0) (h:bB n b f= .ok g) (P N:En):al g P N↔al f (fun x=>P (a6 n b x)) fun x=>N (a6 n b x):=by
 unfold bB at h
 rw [if_neg (by omega)] at h
 obtain ⟨h0,rfl⟩:=fL h
 exact Ey hf h0 P N
theorem Om {f g:List Cl} (hf:RF f) {n b:Nat} (hn:n<24) (hb:b≠0) (h:bB n b f= .ok g) {m:Nat} (hm:n≤m∧m<n+b):cW g m:=by
 refine qX (fa:=false) ⟨n1 hf h,fun h=>by cases h⟩ fun P N P' N' _ _ hP hN hs=> ?_
 rw [wW hf hn hb h] at hs ⊢
 have hu: ∀x,a6 n b x≠m:=fun x=>by unfold a6;split<;>omega
 exact (oi (fun j=>hP _ (hu j)) fun j=>hN _ (hu j)).1 hs
theorem uD {fa:Bool} {r f g:List Cl} {n:Nat} (hf:RX fa f) (h:bB n 1 f= .ok g):aW 0 r fa n g= .ok f:=by
 by_cases hn:n<24
 ·have hl:=Om (b:=1) hf.1 hn (by omega) h (m:=n) (by omega)
  have hg:=D6 hf h
  rw [qJ (Ad hl)]
  congr 1
  refine wR (fa:=fa) (pD hg hn hl) hf fun P N hC=> ?_
  rw [sh hg.1 hn hl,wW hf.1 hn (b:=1) (by omega) h]
  have: ∀ (P:En) j,cj P n (a6 n 1 j)↔P j:=fun P j=>by
   unfold cj
   have h1:a6 n 1 j≠n:=by unfold a6;split<;>omega
   have h2:dk n (a6 n 1 j)=j:=by unfold a6 dk;split<;>split<;>omega
   rw [h2];exact ⟨fun h=>h.2,fun h=>⟨h1,h⟩⟩
  exact oi (this P) (this N)
 ·have:f=g:=by unfold bB at h;rw [if_pos (by omega)] at h;injection h
  subst this
  exact uB hf.1 (by omega)
theorem O8:aZ []=([⟨0,0⟩],0):=rfl
theorem qZ {l:List Cl}:(aX l).1.length≤l.length:=by
 unfold aX
 split
 ·split
  ·exact Nat.zero_le _
  ·exact BG l
 ·exact Nat.zero_le _
theorem q_ (f g:List Cl):(meets f g).length=f.length*g.length:=by
 unfold meets
 induction f with
 |nil=>simp
 |cons c f ih=>rw [List.flatMap_cons,List.length_append,ih,List.length_map,List.length_cons,Nat.succ_mul,Nat.add_comm]
theorem Dw {f g:List Cl} (hf: ∀c∈f,RC c) (hg: ∀c∈g,RC c): ∀c∈meets f g,RC c:=fun c hc=>by
 unfold meets at hc
 obtain ⟨a,ha,hc⟩:=List.mem_flatMap.1 hc
 obtain ⟨b,hb,rfl⟩:=List.mem_map.1 hc
 exact OT (hf a ha) (hg b hb)
theorem vz {f g:List Cl} (hf:RF f) (hg:RF g) (h:f.length≤1∨g.length≤1):(cY f g).2=0∧(cY f g).1.length≤f.length*g.length:=by
 have h1:=hf.len;have h2:=hg.len
 refine ⟨nr (Dw (fun c=>hf.rc) fun c=>hg.rc) ?_,Nat.le_trans qZ (Nat.le_of_eq (q_ f g))⟩
 rw [q_]
 rcases h with h|h
 ·exact Nat.le_trans (Nat.mul_le_mul_right _ h) (by omega)
 ·exact Nat.le_trans (Nat.mul_le_mul_left _ h) (by omega)
theorem O_ {s:List Cl} (hs:RF s) (h:s.length≤1):(aZ s).2=0:=by
 cases s with
 |nil=>rfl
 |cons c s=>
  have:s=[]:=by cases s with
   |nil=>rfl
   |cons=>simp at h
  subst this
  have h1:(gc [⟨0,0⟩] c).2=0:=(vz (df gZ) (nN c) (.inl (by simp))).1
  unfold aZ aL
  rw [if_pos h1];rfl
def jm (r:List Cl):Prop:=RF r∧r.length≤1∧(aZ r).2=0∧(aZ r).1.length≤1
theorem OY:jm []:=⟨gk,by decide,rfl,by rw [O8];decide⟩
theorem O9:aZ [⟨0,0⟩]=([],0):=rfl
theorem BF:jm [⟨0,0⟩]:=⟨df gZ,by decide,rfl,by rw [O9];decide⟩
theorem uW {h g:List Cl} (hh:RF h) (hg:RF g) (hl:h.length+g.length≤64):(cM h g).2=0∧(cM h g).1.length≤h.length+g.length:=by
 refine ⟨nr (fun c hc=> ?_) (by rw [List.length_append];exact hl),Nat.le_trans qZ (by rw [List.length_append];exact Nat.le_refl _)⟩
 rcases List.mem_append.1 hc with hc|hc
 ·exact hh.rc hc
 ·exact hg.rc hc
theorem PY {r:List Cl} (hr:jm r) {n:Int} {h:List Cl} {c:Cl} (hh:RF h) (hl:h.length<64):(dc n r h c).2=0∧(dc n r h c).1.length≤h.length+1:=by
 have ra:(de n r c).2=0∧(de n r c).1.length≤1:=by
  unfold de
  split
  ·have:=vz (df (dZ n c)) hr.1 (.inl (by simp))
   have h2:=hr.2.1
   simp only [List.length_singleton,Nat.one_mul] at this
   exact ⟨this.1,by omega⟩
  ·exact ⟨rfl,by simp⟩
 have fa:=vM hr.1 ra.1
 have rb:(eH n r c (de n r c).1).2=0∧(eH n r c (de n r c).1).1.length≤1:=by
  unfold eH
  split
  ·rw [if_pos hr.2.2.1]
   have:=vz fa (gf hr.2.2.1) (.inl ra.2)
   exact ⟨this.1,Nat.le_trans this.2 (Nat.mul_le_mul ra.2 hr.2.2.2)⟩
  ·exact ⟨rfl,ra.2⟩
 have fb:=vN fa rb.1
 unfold dc
 rw [if_pos ra.1,if_pos rb.1]
 have:=uW hh fb (by omega)
 exact ⟨this.1,by omega⟩
theorem AH (l:List Cl):(eC l).1.length≤l.length:=by
 unfold eC
 exact Nat.le_trans qZ (List.length_filter_le _ _)
theorem AE {l:List Cl} (h: ∀c∈l,RC c) (hl:l.length≤64):(eC l).2=0:=
 nr (fun c hc=>h c (mF hc).1) (Nat.le_trans (List.length_filter_le _ _) hl)
theorem P2 {r:List Cl} (hr:jm r) {n:Int} {h:List Cl} {c:Cl} (hh:RF h) (hl:h.length<64):(bV n r h c).2=0∧(bV n r h c).1.length≤h.length+1:=by
 have hG: ∀ {q:List Cl×Int},q.2=0→RF q.1→q.1.length≤1→(cq n c h q).2=0∧(cq n c h q).1.length≤h.length+1:=by
  intro q h0 hq hq1
  have hm:(eW [bN n c] q.1).2=0:=AE (Dw (fun d hd=>by simp at hd;subst hd;exact dZ _ _) fun c=>hq.rc) (by rw [q_];simp only [List.length_singleton,Nat.one_mul];omega)
  have hl1:(eW [bN n c] q.1).1.length≤1:=Nat.le_trans (AH _) (by rw [q_];simp only [List.length_singleton,Nat.one_mul];exact hq1)
  have hf:=(lq (df (dZ n c)).2 hq.2 hm).1
  unfold cq
  rw [if_pos h0,if_pos hm]
  have:=uW hh hf (by omega)
  exact ⟨this.1,by omega⟩
 have hL: ∀ {l:List Cl},RF l→l.length≤1→(eC l).2=0∧(eC l).1.length≤1:=fun hl h1=>⟨AE (fun c=>hl.rc) (by omega),Nat.le_trans (AH _) h1⟩
 unfold bV
 split
 ·unfold c_
  rw [if_pos hr.1.right]
  have:=hL hr.1 hr.2.1
  exact hG this.1 (nq hr.1.2 this.1).1 this.2
 ·split
  ·unfold dp
   rw [if_pos hr.1.right,if_pos hr.2.2.1]
   have hz:=gf hr.2.2.1
   have:=hL hz hr.2.2.2
   exact hG this.1 (nq hz.2 this.1).1 this.2
  ·have:=uW hh (df (dZ n c)) (by simp;omega)
   exact ⟨this.1,by simpa using this.2⟩
theorem zV {step:List Cl→Cl→List Cl×Int} (hs: ∀h c,RF h→h.length<64→(step h c).2=0∧(step h c).1.length≤h.length+1) (hr: ∀h c,RF h→(step h c).2=0→RF (step h c).1): ∀ {l h:List Cl},RF h→h.length+l.length≤64→(aL step h l).2=0:=by
 intro l
 induction l with
 |nil=>intro h _ _;rfl
 |cons c l ih=>
  intro h hh hl
  rw [List.length_cons] at hl
  have h1:=hs h c hh (by omega)
  unfold aL
  rw [if_pos h1.1]
  exact ih (hr h c hh h1.1) (by omega)
theorem P1 {r h:List Cl} {n:Int} {c:Cl} (hh:RF h) (hr:RF r) (h0:(bV n r h c).2=0):RF (bV n r h c).1:=by
 have hG: ∀ {q:List Cl×Int},(q.2=0→aj q.1)→(cq n c h q).2=0→RF (cq n c h q).1:=by
  intro q hq h0
  unfold cq at h0 ⊢
  split at h0
  case isFalse h1=>exact absurd h0 h1
  rename_i h1
  rw [if_pos h1]
  split at h0
  case isFalse h2=>exact absurd h0 h2
  rename_i h2
  rw [if_pos h2]
  exact uU hh.2 (lq (df (dZ n c)).2 (hq h1) h2).1.2 h0
 unfold bV at h0 ⊢
 split at h0
 ·rename_i h1
  rw [if_pos h1]
  exact hG (fun e=>(rl e hr.2).1.2) h0
 ·rename_i h1
  rw [if_neg h1]
  split at h0
  ·rename_i h2
   rw [if_pos h2]
   exact hG (fun e=>(rm e hr.2).1.2) h0
  ·rename_i h2
   rw [if_neg h2]
   exact uU hh.2 (df (dZ n c)).2 h0
theorem P5 {fa:Bool} {f r:List Cl} (hf:RX fa f) (hr:jm r) {n:Nat} (hn:n<24):(eI fa f n r).2=0:=by
 have hd:gH (n:Int)=true:=decide_eq_true (by omega)
 unfold eI
 cases fa
 ·show (dB f n r).2=0
  unfold dB
  rw [hf.1.right,hr.1.right,hd]
  exact zV (fun h c hh hl=>PY hr hh hl) (fun h c hh h0=>rC hr.1 h c hh h0) gk (by have:=hf.1.len;simpa using this)
 ·show (dA f n r).2=0
  have:cZ f=true:=RFa.right ⟨hf.1,hf.2 rfl⟩
  unfold dA
  rw [this,hr.1.right,hd]
  exact zV (fun h c hh hl=>P2 hr hh hl) (fun h c hh h0=>P1 hh hr.1 h0) gk (by have:=hf.1.len;simpa using this)
theorem vf {n:Nat} (hn:n<24):aP [⟨0,0⟩] 0 n=([⟨0,0⟩],0):=by
 have: ∀m:Fin 24,aP [⟨0,0⟩] 0 ((m.1:Nat):Int)=([⟨0,0⟩],0):=by decide
 exact this ⟨n,hn⟩
theorem zT {fa:Bool} {f r:List Cl} (hf:RX fa f) (hr:jm r) {n:Nat} (hl:n<24→aP r 0 n=(r,0)): ∃g,aW 0 r fa n f= .ok g:=by
 by_cases h:bY (dW f) (n:Int)=true
 ·have hn:=(has_dims.1 h).1
  rw [jI];unfold aF
  rw [Int.zero_add,if_pos h,hl hn,jc rfl,ak]
  exact ⟨_,by rw [show (if fa=true then dA f (n:Int) r else dB f n r)=eI fa f n r from rfl,jc (P5 hf hr hn),ak]⟩
 ·exact ⟨_,qJ (Bool.eq_false_iff.2 h)⟩
end Go.Proofs.YtapmagaejigpnaaGreatDoor
namespace Go.Proofs.YtapmagaejigpnaaGreatDoor
open Go PI
set_option linter.unusedVariables false
set_option linter.unusedSimpArgs false
set_option maxRecDepth 20000
theorem Sg (j:Nat):hp ⟨6,0⟩ j↔j=1∨j=2:=by
 show (6:Nat).testBit j=true↔_
 rcases j with _|_|_|j
 ·decide
 ·decide
 ·decide
 ·have:(6:Nat).testBit (j+1+1+1)=false:=Nat.testBit_lt_two_pow (Nat.lt_of_lt_of_le (by decide:6<2^3) (Nat.pow_le_pow_right (by decide) (by omega)))
  rw [this];simp
theorem GS (p:Int) (j:Nat): ¬hn ⟨p,0⟩ j:=by
 unfold hn;show ¬ (0:Nat).testBit j=true;simp
theorem QE:RC ⟨6,0⟩:=⟨⟨by decide,by decide⟩,by decide,by decide⟩
theorem Ow {f:List Cl} {i b:Int}:(aP f i b).1.length≤f.length:=by
 unfold aP
 split
 ·split
  ·refine Nat.le_trans qZ ?_
   have:=(qL (i:=i) (b:=b) (r:=f) (h:=[]) (fun c hc=>by cases hc)).2
   simpa using this
  ·simp
 ·simp
theorem S5 {n:Nat} {s:List Cl} (h:cm (aP [⟨6,0⟩] 0 n)= .ok s):cW s n∧(aZ s).2=0∧ ∀P N:En,(al s P N↔P (n+1)∧P (n+2))∧(al (aZ s).1 P N↔N (n+1)∨N (n+2)):=by
 obtain ⟨h0,rfl⟩:=fL h
 have rs:RF (aP [⟨6,0⟩] 0 n).1:=gV h0
 have hs: ∀P N,al (aP [⟨6,0⟩] 0 n).1 P N↔P (n+1)∧P (n+2):=fun P N=>by
  show al (aP [⟨6,0⟩] ((0:Nat):Int) n).1 P N↔_
  rw [Ey (n:=0) (df QE) h0 P N,kc]
  unfold bA
  have e: ∀x,a6 0 n x=x+n:=fun x=>by unfold a6;rw [if_neg (by omega)]
  simp only [Sg,e]
  constructor
  ·intro h
   have h1:=h.1 1 (.inl rfl)
   have h2:=h.1 2 (.inr rfl)
   rw [Nat.add_comm] at h1 h2
   exact ⟨h1,h2⟩
  ·rintro ⟨h1,h2⟩
   refine ⟨fun j hj=> ?_,fun j hj=>absurd hj (GS _ _)⟩
   rcases hj with rfl|rfl
   ·rw [Nat.add_comm];exact h1
   ·rw [Nat.add_comm];exact h2
 have hz:=O_ rs (Nat.le_trans Ow (by simp))
 refine ⟨?_,hz,fun P N=>⟨hs P N, ?_⟩⟩
 ·refine qX (fa:=false) ⟨rs,fun h=>by cases h⟩ fun P N P' N' _ _ hP hN h=> ?_
  rw [hs] at h ⊢
  exact ⟨(hP _ (by omega)).1 h.1,(hP _ (by omega)).1 h.2⟩
 ·rw [EB rs hz]
  constructor
  ·intro h
   obtain ⟨c,hc,h1,h2⟩:=(hs (fun j=>j=n+1∨j=n+2) fun _=>False).2 ⟨.inl rfl,.inr rfl⟩
   obtain ⟨j,hj⟩:=h c hc
   rcases hj with hj|hj
   ·rcases h1 j hj.1 with rfl|rfl
    ·exact .inl hj.2
    ·exact .inr hj.2
   ·exact (h2 j hj.1).elim
  ·intro h c hc
   have:=(hs (hp c) (hn c)).1 ⟨c,hc,h8 c⟩
   rcases h with h|h
   ·exact ⟨n+1,.inl ⟨this.1,h⟩⟩
   ·exact ⟨n+2,.inl ⟨this.2,h⟩⟩
theorem RW (P N:En):al [⟨0,0⟩] P N↔True:=by rw [kc];exact ⟨fun _=>trivial,fun _=>yO P N⟩
theorem Ph {n:Nat} (hn:n<24) {s:List Cl} (h:cm (aP [⟨0,0⟩] 0 n)= .ok s):cW s n∧(aZ s).2=0∧ ∀P N:En,(al s P N↔True)∧(al (aZ s).1 P N↔False):=by
 rw [vf hn] at h
 obtain ⟨_,rfl⟩:=fL h
 refine ⟨fun c hc=> ?_,rfl,fun P N=>⟨RW P N,⟨oj P N,False.elim⟩⟩⟩
 simp at hc;subst hc
 exact ⟨fun h=>by simp [hp] at h,GS 0 n⟩
theorem R0 {f:List Cl} {P N P' N':En} (h: ∀c∈f,∀j,(hp c j→(P j↔P' j))∧(hn c j→(N j↔N' j))):al f P N↔al f P' N':=
 ⟨fun ⟨c,hc,hs⟩=>⟨c,hc,fun j hj=>((h c hc j).1 hj).1 (hs.1 j hj),fun j hj=>((h c hc j).2 hj).1 (hs.2 j hj)⟩,
  fun ⟨c,hc,hs⟩=>⟨c,hc,fun j hj=>((h c hc j).1 hj).2 (hs.1 j hj),fun j hj=>((h c hc j).2 hj).2 (hs.2 j hj)⟩⟩
theorem L_ {fa:Bool} {f g1 g2:List Cl} {n:Nat} (hf:RX fa f) (h1:bB ((n+1:Nat):Int) 2 f= .ok g1) (h2:aW 0 [⟨6,0⟩] fa n g1= .ok g2):aW 0 [⟨0,0⟩] fa ((n+1:Nat):Int) g2= .ok f:=by
 by_cases hn:n+1<24
 ·have r1:=D6 hf h1
  obtain ⟨r2,s2⟩:=Ew (by omega) r1 (A:=fun P _=>P (n+1)∧P (n+2)) (B:=fun _ N=>N (n+1)∨N (n+2)) (fun _ s e=>S5 e) h2
  obtain ⟨g3,h3⟩:=zT r2 BF (n:=n+1) fun h=>vf h
  obtain ⟨r3,s3⟩:=Ew hn r2 (A:=fun _ _=>True) (B:=fun _ _=>False) (fun _ s e=>Ph hn e) h3
  rw [h3]
  congr 1
  refine wR r3 hf fun P N hC=> ?_
  rw [s3 P N hC,s2 _ _ (fun e=>Kf (yW hC _ e) fun h=>h.2),wW hf.1 hn (b:=2) (by omega) h1]
  refine oi (fun j=> ?_) fun j=> ?_
  ·rcases Nat.lt_trichotomy j n with h|h|h
   ·have e:a6 (n+1) 2 j=j:=if_pos (by omega)
    rw [e];unfold bw cj dk;grind
   ·have e:a6 (n+1) 2 j=n:=by subst h;exact if_pos (by omega)
    rw [e];unfold bw cj dk;grind
   ·have e:a6 (n+1) 2 j=j+2:=if_neg (by omega)
    rw [e];unfold bw cj dk;grind
  ·rcases Nat.lt_trichotomy j n with h|h|h
   ·have e:a6 (n+1) 2 j=j:=if_pos (by omega)
    rw [e];unfold bw cj dk;grind
   ·have e:a6 (n+1) 2 j=n:=by subst h;exact if_pos (by omega)
    rw [e];unfold bw cj dk;grind
   ·have e:a6 (n+1) 2 j=j+2:=if_neg (by omega)
    rw [e];unfold bw cj dk;grind
 ·have e:f=g1:=by unfold bB at h1;rw [if_pos (by omega)] at h1;injection h1
  subst e
  have key: ∀ {g},g=f→aW 0 [⟨0,0⟩] fa ((n+1:Nat):Int) g= .ok f:=fun e=>by subst e;exact uB hf.1 (by omega)
  by_cases hn':n=23
  ·subst hn'
   by_cases hl:cW f 23
   ·rw [qJ (Ad hl)] at h2
    injection h2 with h2
    refine key ?_
    rw [←h2]
    refine wR (fa:=fa) (pD hf (by decide) hl) hf fun P N hC=> ?_
    show al (aG ((23:Nat):Int) f) P N↔_
    rw [sh hf.1 (by decide) hl]
    refine R0 fun c hc j=>⟨fun hj=> ?_,fun hj=> ?_⟩
    ·have h1:=wt (hf.1.rc hc) hj
     have h2:j≠23:=fun e=>(hl c hc).1 (e▸hj)
     unfold cj dk;rw [if_neg (by omega)];exact ⟨fun h=>h.2,fun h=>⟨h2,h⟩⟩
    ·have h1:=ws (hf.1.rc hc) hj
     have h2:j≠23:=fun e=>(hl c hc).2 (e▸hj)
     unfold cj dk;rw [if_neg (by omega)];exact ⟨fun h=>h.2,fun h=>⟨h2,h⟩⟩
   ·exfalso
    rw [jI] at h2;unfold aF at h2
    rw [Int.zero_add,if_pos (has_dims.2 ⟨by decide,hl⟩),lS (show (aP [⟨6,0⟩] 0 ((23:Nat):Int)).2≠0 by decide)] at h2
    cases h2
  ·rw [uB hf.1 (by omega)] at h2
   injection h2 with h2
   exact key h2.symm
end Go.Proofs.YtapmagaejigpnaaGreatDoor
namespace Go.Proofs.YtapmagaejigpnaaGreatDoor
open Go PI
set_option linter.unusedVariables false
set_option linter.unusedSimpArgs false
set_option maxRecDepth 20000
abbrev gC:=Bool→Int→List Cl→List Cl→Prop
abbrev gA:=Int→List Cl→List Cl→Prop
mutual
def Rl (Ro:gC) (Rb:gA) (d:Int):Tm→Tm→Prop
 | .mk kd n nm r ks sys,t'=> ∃r' ks' sys',t'= .mk kd n nm r' ks' sys'∧Ro (decide (kd=14)) d r r'∧dP Ro Rb d kd 0 ks ks'∧dR Ro Rb d kd sys sys'
termination_by structural x _=>x
def dP (Ro:gC) (Rb:gA) (d kd:Int) (i:Nat):List Tm→List Tm→Prop
 |[],l'=>l'=[]
 |t::l,l'=> ∃t' m,l'=t'::m∧Rl Ro Rb (d+bU kd i) t t'∧dP Ro Rb d kd (i+1) l m
termination_by structural x _=>x
def dR (Ro:gC) (Rb:gA) (d kd:Int):List (Br Tm)→List (Br Tm)→Prop
 |[],l'=>l'=[]
 |b::l,l'=> ∃b' m,l'=b'::m∧ma Ro Rb d kd b b'∧dR Ro Rb d kd l m
termination_by structural x _=>x
def ma (Ro:gC) (Rb:gA) (d kd:Int):Br Tm→Br Tm→Prop
 | .mk f ks,b'=> ∃f' ks',b'= .mk f' ks'∧Rb d f f'∧dQ Ro Rb d kd ks ks'
termination_by structural x _=>x
def dQ (Ro:gC) (Rb:gA) (d kd:Int):List Tm→List Tm→Prop
 |[],l'=>l'=[]
 |t::l,l'=> ∃t' m,l'=t'::m∧Rl Ro Rb (d+aw kd) t t'∧dQ Ro Rb d kd l m
termination_by structural x _=>x
end
mutual
def dg (pl:Bool):Tm→Prop
 | .mk kd n nm r ks sys=>RX (decide (kd=14)) r∧dt pl ks∧fe pl sys
def dt (pl:Bool):List Tm→Prop
 |[]=>True
 |t::l=>dg pl t∧dt pl l
def fe (pl:Bool):List (Br Tm)→Prop
 |[]=>True
 |b::l=>l_ pl b∧fe pl l
def l_ (pl:Bool):Br Tm→Prop
 | .mk f ks=>(RX true f∧(pl=true→f≠[]))∧dt pl ks
end
def sF (c db:Int) (pl:Bool):gC:=fun fa d f g=>RX fa f∧bB (c+d) db f= .ok g
def sE (c db:Int) (pl:Bool):gA:=fun d f g=>(RX true f∧(pl=true→f≠[]))∧bB (c+d) db f= .ok g
section
variable {pl:Bool} {c vb db kd:Int} {fo fa:ca} {Ro Ro':gC} {Rb Rb':gA}
abbrev oE (pl:Bool) (c vb db:Int) (x:Tm):Prop:= ∀ {v d e:Int} {t':Tm},e=c+d→vb=0→dg pl x→bj vb db v e x= .ok t'→Rl (sF c db pl) (sE c db pl) d x t'
theorem Ti: ∀ {l l':List Tm} {i:Nat} {v d e:Int},(∀x∈l,oE pl c vb db x)→e=c+d→vb=0→dt pl l→dm vb db v e kd i l= .ok l'→dP (sF c db pl) (sE c db pl) d kd i l l':=by
 intro l
 induction l with
 |nil=>intro l' i v d e _ _ _ _ hl;rw [dm] at hl;injection hl with hl;subst hl;rw [dP]
 |cons t l ih=>
  intro l' i v d e h he hv hp hl
  rw [dm] at hl
  obtain ⟨t',e1,hl⟩:=aq hl
  obtain ⟨m,e2,hl⟩:=aq hl
  injection hl with hl;subst hl
  rw [dt] at hp
  rw [dP]
  exact ⟨_,_,rfl,h t (by simp) (by omega) hv hp.1 e1,ih (fun x hx=>h x (by simp [hx])) he hv hp.2 e2⟩
theorem Tj: ∀ {l l':List Tm} {v d e:Int},(∀x∈l,oE pl c vb db x)→e=c+d→vb=0→dt pl l→dn vb db v e kd l= .ok l'→dQ (sF c db pl) (sE c db pl) d kd l l':=by
 intro l
 induction l with
 |nil=>intro l' v d e _ _ _ _ hl;rw [dn] at hl;injection hl with hl;subst hl;rw [dQ]
 |cons t l ih=>
  intro l' v d e h he hv hp hl
  rw [dn] at hl
  obtain ⟨t',e1,hl⟩:=aq hl
  obtain ⟨m,e2,hl⟩:=aq hl
  injection hl with hl;subst hl
  rw [dt] at hp
  rw [dQ]
  exact ⟨_,_,rfl,h t (by simp) (by omega) hv hp.1 e1,ih (fun x hx=>h x (by simp [hx])) he hv hp.2 e2⟩
theorem Tk: ∀ {l l':List (Br Tm)} {v d e:Int},(∀b∈l,∀x∈b.kids,oE pl c vb db x)→e=c+d→vb=0→fe pl l→cX vb db v e kd l= .ok l'→dR (sF c db pl) (sE c db pl) d kd l l':=by
 intro l
 induction l with
 |nil=>intro l' v d e _ _ _ _ hl;rw [cX] at hl;injection hl with hl;subst hl;rw [dR]
 |cons b l ih=>
  intro l' v d e h he hv hp hl
  rw [cX] at hl
  obtain ⟨b',e1,hl⟩:=aq hl
  obtain ⟨m,e2,hl⟩:=aq hl
  injection hl with hl;subst hl
  obtain ⟨f,ks⟩:=b
  rw [jX] at e1
  obtain ⟨f',e3,e1⟩:=aq e1
  obtain ⟨ks',e4,e1⟩:=aq e1
  injection e1 with e1;subst e1
  rw [fe,l_] at hp
  rw [dR]
  refine ⟨_,_,rfl, ?_,ih (fun b hb=>h b (by simp [hb])) he hv hp.2 e2⟩
  rw [ma]
  exact ⟨f',ks',rfl,⟨hp.1.1,he▸e3⟩,Tj (h ⟨f,ks⟩ (by simp)) he hv hp.1.2 e4⟩
theorem AN (t:Tm):oE pl c vb db t:=by
 induction t using d_ with
 |h kd n nm r ks sys ih1 ih2=>
  intro v d e t' he hv hp h
  rw [dg] at hp
  rw [bj] at h
  split at h
  ·cases h
  obtain ⟨r1,e1,h⟩:=aq h
  obtain ⟨ks1,e2,h⟩:=aq h
  obtain ⟨sys1,e3,h⟩:=aq h
  injection h with h;subst h
  rw [Rl]
  refine ⟨r1,ks1,sys1, ?_,⟨hp.1,he▸e1⟩,Ti ih1 he hv hp.2.1 e2,Tk ih2 he hv hp.2.2 e3⟩
  subst hv
  rw [Int.add_zero,ite_self]
abbrev oF (Ro Ro':gC) (Rb Rb':gA) (fo fa:ca) (x:Tm):Prop:= ∀ {d:Int} {t1 t2:Tm},0≤d→Rl Ro Rb d x t1→ay fo fa d t1= .ok t2→Rl Ro' Rb' d x t2
theorem TD: ∀ {l l' l2:List Tm} {i:Nat} {d:Int},(∀x∈l,oF Ro Ro' Rb Rb' fo fa x)→0≤d→dP Ro Rb d kd i l l'→aO fo fa d kd i l'= .ok l2→dP Ro' Rb' d kd i l l2:=by
 intro l
 induction l with
 |nil=>intro l' l2 i d _ _ hp hl;rw [dP] at hp;subst hp;rw [aO] at hl;injection hl with hl;subst hl;rw [dP]
 |cons t l ih=>
  intro l' l2 i d h hd hp hl
  rw [dP] at hp
  obtain ⟨t1,m1,rfl,q1,q2⟩:=hp
  rw [aO] at hl
  obtain ⟨t',e1,hl⟩:=aq hl
  obtain ⟨m,e2,hl⟩:=aq hl
  injection hl with hl;subst hl
  rw [dP]
  exact ⟨_,_,rfl,h t (by simp) (by have:=fN kd i;omega) q1 e1,ih (fun x hx=>h x (by simp [hx])) hd q2 e2⟩
theorem TE: ∀ {l l' l2:List Tm} {d:Int},(∀x∈l,oF Ro Ro' Rb Rb' fo fa x)→0≤d→dQ Ro Rb d kd l l'→aS fo fa d kd l'= .ok l2→dQ Ro' Rb' d kd l l2:=by
 intro l
 induction l with
 |nil=>intro l' l2 d _ _ hp hl;rw [dQ] at hp;subst hp;rw [aS] at hl;injection hl with hl;subst hl;rw [dQ]
 |cons t l ih=>
  intro l' l2 d h hd hp hl
  rw [dQ] at hp
  obtain ⟨t1,m1,rfl,q1,q2⟩:=hp
  rw [aS] at hl
  obtain ⟨t',e1,hl⟩:=aq hl
  obtain ⟨m,e2,hl⟩:=aq hl
  injection hl with hl;subst hl
  rw [dQ]
  exact ⟨_,_,rfl,h t (by simp) (by have:=d4 kd;omega) q1 e1,ih (fun x hx=>h x (by simp [hx])) hd q2 e2⟩
theorem TF (hB: ∀d f g g',0≤d→Rb d f g→fa d g= .ok g'→Rb' d f g'∧g'.length≠0): ∀ {l l' l2:List (Br Tm)} {d:Int},(∀b∈l,∀x∈b.kids,oF Ro Ro' Rb Rb' fo fa x)→0≤d→dR Ro Rb d kd l l'→ax fo fa d kd l'= .ok l2→dR Ro' Rb' d kd l l2:=by
 intro l
 induction l with
 |nil=>intro l' l2 d _ _ hp hl;rw [dR] at hp;subst hp;rw [ax] at hl;injection hl with hl;subst hl;rw [dR]
 |cons b l ih=>
  intro l' l2 d h hd hl hw
  rw [dR] at hl
  obtain ⟨b',m,rfl,q1,q2⟩:=hl
  obtain ⟨f,ks⟩:=b
  rw [ma] at q1
  obtain ⟨f',ks',rfl,q3,q4⟩:=q1
  rw [ax] at hw
  obtain ⟨o,e1,hw⟩:=aq hw
  obtain ⟨m',e2,hw⟩:=aq hw
  injection hw with hw;subst hw
  rw [cF] at e1
  obtain ⟨g,e3,e1⟩:=aq e1
  obtain ⟨h1,h2⟩:=hB _ _ _ _ hd q3 e3
  rw [if_neg h2] at e1
  obtain ⟨ks2,e4,e1⟩:=aq e1
  injection e1 with e1;subst e1
  rw [dR]
  refine ⟨_,_,rfl, ?_,ih (fun b hb=>h b (by simp [hb])) hd q2 e2⟩
  rw [ma]
  exact ⟨g,ks2,rfl,h1,TE (h ⟨f,ks⟩ (by simp)) hd q4 e4⟩
theorem QR (hO: ∀b d f g g',0≤d→Ro b d f g→(if b then fa d g else fo d g)= .ok g'→Ro' b d f g') (hB: ∀d f g g',0≤d→Rb d f g→fa d g= .ok g'→Rb' d f g'∧g'.length≠0) (t:Tm):oF Ro Ro' Rb Rb' fo fa t:=by
 induction t using d_ with
 |h kd n nm r ks sys ih1 ih2=>
  intro d t1 t2 hd hp h
  rw [Rl] at hp
  obtain ⟨r1,ks1,sys1,rfl,q1,q2,q3⟩:=hp
  rw [ay] at h
  obtain ⟨r2,e1,h⟩:=aq h
  obtain ⟨ks2,e2,h⟩:=aq h
  obtain ⟨sys2,e3,h⟩:=aq h
  injection h with h;subst h
  rw [Rl]
  exact ⟨r2,ks2,sys2,rfl,hO _ _ _ _ _ hd q1 (by simpa using e1),TD ih1 hd q2 e2,TF hB ih2 hd q3 e3⟩
abbrev oC (Ro:gC) (Rb:gA) (fo fa:ca) (c:Int) (x:Tm):Prop:= ∀ {d e:Int} {t1:Tm},e=c+d→0≤d→Rl Ro Rb d x t1→ay fo fa e t1= .ok x
theorem JV: ∀ {l l':List Tm} {i:Nat} {d e:Int},(∀x∈l,oC Ro Rb fo fa c x)→e=c+d→0≤d→dP Ro Rb d kd i l l'→aO fo fa e kd i l'= .ok l:=by
 intro l
 induction l with
 |nil=>intro l' i d e _ _ _ hp;rw [dP] at hp;subst hp;rw [aO]
 |cons t l ih=>
  intro l' i d e h he hd hp
  rw [dP] at hp
  obtain ⟨t1,m1,rfl,q1,q2⟩:=hp
  rw [aO,h t (by simp) (by omega) (by have:=fN kd i;omega) q1,ak,ih (fun x hx=>h x (by simp [hx])) he hd q2,ak]
theorem JW: ∀ {l l':List Tm} {d e:Int},(∀x∈l,oC Ro Rb fo fa c x)→e=c+d→0≤d→dQ Ro Rb d kd l l'→aS fo fa e kd l'= .ok l:=by
 intro l
 induction l with
 |nil=>intro l' d e _ _ _ hp;rw [dQ] at hp;subst hp;rw [aS]
 |cons t l ih=>
  intro l' d e h he hd hp
  rw [dQ] at hp
  obtain ⟨t1,m1,rfl,q1,q2⟩:=hp
  rw [aS,h t (by simp) (by omega) (by have:=d4 kd;omega) q1,ak,ih (fun x hx=>h x (by simp [hx])) he hd q2,ak]
theorem JX (hB: ∀d f g,0≤d→Rb d f g→fa (c+d) g= .ok f∧f.length≠0): ∀ {l l':List (Br Tm)} {d e:Int},(∀b∈l,∀x∈b.kids,oC Ro Rb fo fa c x)→e=c+d→0≤d→dR Ro Rb d kd l l'→ax fo fa e kd l'= .ok l:=by
 intro l
 induction l with
 |nil=>intro l' d e _ _ _ hp;rw [dR] at hp;subst hp;rw [ax]
 |cons b l ih=>
  intro l' d e h he hd hl
  rw [dR] at hl
  obtain ⟨b',m,rfl,q1,q2⟩:=hl
  obtain ⟨f,ks⟩:=b
  rw [ma] at q1
  obtain ⟨f',ks',rfl,q3,q4⟩:=q1
  obtain ⟨h1,h2⟩:=hB _ _ _ hd q3
  rw [ax,cF,he,h1,ak,if_neg h2,←he,JW (h ⟨f,ks⟩ (by simp)) he hd q4,ak,ak,ih (fun b hb=>h b (by simp [hb])) he hd q2,ak];rfl
theorem DE (hO: ∀b d f g,0≤d→Ro b d f g→(if b then fa (c+d) g else fo (c+d) g)= .ok f) (hB: ∀d f g,0≤d→Rb d f g→fa (c+d) g= .ok f∧f.length≠0) (t:Tm):oC Ro Rb fo fa c t:=by
 induction t using d_ with
 |h kd n nm r ks sys ih1 ih2=>
  intro d e t1 he hd hp
  rw [Rl] at hp
  obtain ⟨r1,ks1,sys1,rfl,q1,q2,q3⟩:=hp
  have:=hO _ _ _ _ hd q1
  simp only [decide_eq_true_eq] at this
  rw [ay,he,this,ak,←he,JV ih1 he hd q2,ak,JX hB ih2 he hd q3,ak]
abbrev oD (pl:Bool) (fo fa:ca) (x:Tm):Prop:= ∀ {d:Int},0≤d→dg pl x→ ∃t',ay fo fa d x= .ok t'
theorem S1: ∀ {l:List Tm} {i:Nat} {d:Int},(∀x∈l,oD pl fo fa x)→0≤d→dt pl l→ ∃l',aO fo fa d kd i l= .ok l':=by
 intro l
 induction l with
 |nil=>exact fun _ _ _=>⟨[],by rw [aO]⟩
 |cons t l ih=>
  intro i d h hd hp
  rw [dt] at hp
  obtain ⟨t',e1⟩:=h t (by simp) (d:=d+bU kd i) (by have:=fN kd i;omega) hp.1
  obtain ⟨l',e2⟩:=ih (i:=i+1) (fun x hx=>h x (by simp [hx])) hd hp.2
  exact ⟨_,by rw [aO,e1,ak,e2,ak]⟩
theorem S2: ∀ {l:List Tm} {d:Int},(∀x∈l,oD pl fo fa x)→0≤d→dt pl l→ ∃l',aS fo fa d kd l= .ok l':=by
 intro l
 induction l with
 |nil=>exact fun _ _ _=>⟨[],by rw [aS]⟩
 |cons t l ih=>
  intro d h hd hp
  rw [dt] at hp
  obtain ⟨t',e1⟩:=h t (by simp) (d:=d+aw kd) (by have:=d4 kd;omega) hp.1
  obtain ⟨l',e2⟩:=ih (fun x hx=>h x (by simp [hx])) hd hp.2
  exact ⟨_,by rw [aS,e1,ak,e2,ak]⟩
theorem S3 (hB: ∀d f,0≤d→RX true f→ ∃g,fa d f= .ok g): ∀ {l:List (Br Tm)} {d:Int},(∀b∈l,∀x∈b.kids,oD pl fo fa x)→0≤d→fe pl l→ ∃l',ax fo fa d kd l= .ok l':=by
 intro l
 induction l with
 |nil=>exact fun _ _ _=>⟨[],by rw [ax]⟩
 |cons b l ih=>
  intro d h hd hp
  rw [fe] at hp
  obtain ⟨l',e⟩:=ih (fun b hb=>h b (by simp [hb])) hd hp.2
  obtain ⟨f,ks'⟩:=b
  have hp1:=hp.1
  rw [l_] at hp1
  obtain ⟨g,eg⟩:=hB d f hd hp1.1.1
  obtain ⟨m,em⟩:=S2 (kd:=kd) (h ⟨f,ks'⟩ (by simp)) hd hp1.2
  rw [ax,cF,eg,ak,em,e]
  split<;>exact ⟨_,rfl⟩
theorem Tz (hO: ∀b d f,0≤d→RX b f→ ∃g,(if b then fa d f else fo d f)= .ok g) (t:Tm):oD pl fo fa t:=by
 induction t using d_ with
 |h kd n nm r ks sys ih1 ih2=>
  intro d hd hp
  rw [dg] at hp
  obtain ⟨g,eg⟩:=hO _ d r hd hp.1
  obtain ⟨k',ek⟩:=S1 (kd:=kd) (i:=0) ih1 hd hp.2.1
  obtain ⟨s',es⟩:=S3 (kd:=kd) (fun d f hd hf=>by simpa using hO true d f hd hf) ih2 hd hp.2.2
  simp only [decide_eq_true_eq] at eg
  exact ⟨_,by rw [ay,eg,ak,ek,ak,es,ak]⟩
end
theorem rj {d:Int} (h:0≤d): ∃n:Nat,d=n:=⟨d.toNat,by omega⟩
theorem qQ (b:Bool) (r:List Cl) (d:Int) (f:List Cl):(if b then aW 0 r true d f else aW 0 r false d f)=aW 0 r b d f:=by cases b<;>rfl
theorem SV {r:List Cl} {t t':Tm} {v:Int} (hp:dg true t) (h:bj 0 1 v 0 t= .ok t'):ay (aW 0 r false) (aW 0 r true) 0 t'= .ok t:=by
 have h1:=AN (c:=0) (db:=1) (d:=0) t (by rfl) rfl hp h
 refine DE (c:=0) (fun b d f g hd hr=> ?_) (fun d f g hd hr=> ?_) t (by rfl) (by decide) h1
 ·obtain ⟨n,rfl⟩:=rj hd
  rw [qQ,Int.zero_add]
  obtain ⟨h1,h2⟩:=hr
  rw [Int.zero_add] at h2
  exact uD h1 h2
 ·obtain ⟨n,rfl⟩:=rj hd
  rw [Int.zero_add]
  obtain ⟨⟨h1,h3⟩,h2⟩:=hr
  rw [Int.zero_add] at h2
  exact ⟨uD h1 h2,fun e=>h3 rfl (List.length_eq_zero_iff.1 e)⟩
theorem Ma {r:List Cl} {fa:Bool} {d:Int} {f:List Cl} (h:aW 0 r fa d []= .ok f):f=[]:=by
 rw [uC] at h;injection h with h;exact h.symm
theorem SU {t t1 t2:Tm} {v:Int} (hp:dg true t) (h:bj 0 2 v 1 t= .ok t1) (h2:ay (aW 0 [⟨6,0⟩] false) (aW 0 [⟨6,0⟩] true) 0 t1= .ok t2):ay (aW 0 [⟨0,0⟩] false) (aW 0 [⟨0,0⟩] true) 1 t2= .ok t:=by
 have h1:=AN (c:=1) (db:=2) (d:=0) t (by rfl) rfl hp h
 have key: ∀b d f g g',0≤d→RX b f→bB (1+d) 2 f= .ok g→aW 0 [⟨6,0⟩] b d g= .ok g'→aW 0 [⟨0,0⟩] b (1+d) g'= .ok f:=fun b d f g g' hd hf h1 h2=>by
  obtain ⟨n,rfl⟩:=rj hd
  rw [show (1:Int)+(n:Int)=((n+1:Nat):Int) by omega] at h1 ⊢
  exact L_ hf h1 h2
 have h3:=QR (Ro':=fun b d f g=>aW 0 [⟨0,0⟩] b (1+d) g= .ok f) (Rb':=fun d f g=>aW 0 [⟨0,0⟩] true (1+d) g= .ok f∧f.length≠0) (fun b d f g g' hd hr hw=> ?_) (fun d f g g' hd hr hw=> ?_) t (by decide) h1 h2
 ·exact DE (c:=1) (fun b d f g hd hr=>by rw [qQ];exact hr) (fun d f g hd hr=>hr) t (by rfl) (by decide) h3
 ·rw [qQ] at hw
  exact key b d f g g' hd hr.1 hr.2 hw
 ·have:=key true d f g g' hd hr.1.1 hr.2 hw
  refine ⟨⟨this,fun e=>hr.1.2 rfl (List.length_eq_zero_iff.1 e)⟩,fun e=> ?_⟩
  rw [List.length_eq_zero_iff.1 e] at this
  exact hr.1.2 rfl (Ma this)
theorem F7 {pl:Bool} {r:List Cl} {t:Tm} (hp:dg pl t) (hr:jm r) (hl: ∀n:Nat,n<24→aP r 0 n=(r,0)): ∃t',ay (aW 0 r false) (aW 0 r true) 0 t= .ok t':=
 Tz (fun b d f hd hf=>by
  obtain ⟨n,rfl⟩:=rj hd
  rw [qQ]
  exact zT hf hr (hl n)) t (by decide) hp
end Go.Proofs.YtapmagaejigpnaaGreatDoor
