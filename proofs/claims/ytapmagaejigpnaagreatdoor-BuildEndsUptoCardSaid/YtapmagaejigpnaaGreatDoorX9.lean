/- BuildEnds answers true at every input of bulk at most 1048576, and leaves its arguments as they were: the second form's card. -/
import Derived.Test.YtapmagaejigpnaaGreatDoorX8
namespace Go.Proofs.YtapmagaejigpnaaGreatDoor
open Go PI
set_option linter.unusedVariables false
set_option linter.unusedSimpArgs false
set_option maxRecDepth 20000
theorem RH (j:Nat):hp ⟨6,0⟩ j↔j=1∨j=2:=by
 show (6:Nat).testBit j=true↔_
 rcases j with _|_|_|j
 ·decide
 ·decide
 ·decide
 ·have:(6:Nat).testBit (j+1+1+1)=false:=Nat.testBit_lt_two_pow (Nat.lt_of_lt_of_le (by decide:6<2^3) (Nat.pow_le_pow_right (by decide) (by omega)))
  rw [this];simp
theorem Gw (p:Int) (j:Nat): ¬hn ⟨p,0⟩ j:=by
 unfold hn;show ¬ (0:Nat).testBit j=true;simp
theorem P5:RC ⟨6,0⟩:=⟨⟨by decide,by decide⟩,by decide,by decide⟩
theorem NT {f:List Cl} {i b:Int}:(aF f i b).1.length≤f.length:=by
 unfold aF
 split
 ·split
  ·refine Nat.le_trans qU ?_
   have:=(qF (i:=i) (b:=b) (r:=f) (h:=[]) (fun c hc=>by cases hc)).2
   simpa using this
  ·simp
 ·simp
theorem Sq {n:Nat} {s:List Cl} (h:bP (aF [⟨6,0⟩] 0 n)= .ok s):cJ s n∧(aU s).2=0∧ ∀P N:En,(ak s P N↔P (n+1)∧P (n+2))∧(ak (aU s).1 P N↔N (n+1)∨N (n+2)):=by
 obtain ⟨h0,rfl⟩:=d4 h
 have rs:RF (aF [⟨6,0⟩] 0 n).1:=fX h0
 have hs: ∀P N,ak (aF [⟨6,0⟩] 0 n).1 P N↔P (n+1)∧P (n+2):=fun P N=>by
  show ak (aF [⟨6,0⟩] ((0:Nat):Int) n).1 P N↔_
  rw [Ec (n:=0) (cD P5) h0 P N,i8]
  unfold a7
  have e: ∀x,aV 0 n x=x+n:=fun x=>by unfold aV;rw [if_neg (by omega)]
  simp only [RH,e]
  constructor
  ·intro h
   have h1:=h.1 1 (.inl rfl)
   have h2:=h.1 2 (.inr rfl)
   rw [Nat.add_comm] at h1 h2
   exact ⟨h1,h2⟩
  ·rintro ⟨h1,h2⟩
   refine ⟨fun j hj=> ?_,fun j hj=>absurd hj (Gw _ _)⟩
   rcases hj with rfl|rfl
   ·rw [Nat.add_comm];exact h1
   ·rw [Nat.add_comm];exact h2
 have hz:=OF rs (Nat.le_trans NT (by simp))
 refine ⟨?_,hz,fun P N=>⟨hs P N, ?_⟩⟩
 ·refine qS (fa:=false) ⟨rs,fun h=>by cases h⟩ fun P N P' N' _ _ hP hN h=> ?_
  rw [hs] at h ⊢
  exact ⟨(hP _ (by omega)).1 h.1,(hP _ (by omega)).1 h.2⟩
 ·rw [Ef rs hz]
  constructor
  ·intro h
   obtain ⟨c,hc,h1,h2⟩:=(hs (fun j=>j=n+1∨j=n+2) fun _=>False).2 ⟨.inl rfl,.inr rfl⟩
   obtain ⟨j,hj⟩:=h c hc
   rcases hj with hj|hj
   ·rcases h1 j hj.1 with rfl|rfl
    ·exact .inl hj.2
    ·exact .inr hj.2
   ·exact (h2 j hj.1).elim
  ·intro h c hc
   have:=(hs (hp c) (hn c)).1 ⟨c,hc,hJ c⟩
   rcases h with h|h
   ·exact ⟨n+1,.inl ⟨this.1,h⟩⟩
   ·exact ⟨n+2,.inl ⟨this.2,h⟩⟩
theorem sh (P N:En):ak [⟨0,0⟩] P N↔True:=by rw [i8];exact ⟨fun _=>trivial,fun _=>yB P N⟩
theorem vu {n:Nat} (hn:n<24) {s:List Cl} (h:bP (aF [⟨0,0⟩] 0 n)= .ok s):cJ s n∧(aU s).2=0∧ ∀P N:En,(ak s P N↔True)∧(ak (aU s).1 P N↔False):=by
 rw [u3 hn] at h
 obtain ⟨_,rfl⟩:=d4 h
 refine ⟨fun c hc=> ?_,rfl,fun P N=>⟨sh P N,⟨lN P N,False.elim⟩⟩⟩
 simp at hc;subst hc
 exact ⟨fun h=>by simp [hp] at h,Gw 0 n⟩
theorem Rm {f:List Cl} {P N P' N':En} (h: ∀c∈f,∀j,(hp c j→(P j↔P' j))∧(hn c j→(N j↔N' j))):ak f P N↔ak f P' N':=
 ⟨fun ⟨c,hc,hs⟩=>⟨c,hc,fun j hj=>((h c hc j).1 hj).1 (hs.1 j hj),fun j hj=>((h c hc j).2 hj).1 (hs.2 j hj)⟩,
  fun ⟨c,hc,hs⟩=>⟨c,hc,fun j hj=>((h c hc j).1 hj).2 (hs.1 j hj),fun j hj=>((h c hc j).2 hj).2 (hs.2 j hj)⟩⟩
theorem LA {fa:Bool} {f g1 g2:List Cl} {n:Nat} (hf:RX fa f) (h1:bp ((n+1:Nat):Int) 2 f= .ok g1) (h2:aY 0 [⟨6,0⟩] fa n g1= .ok g2):aY 0 [⟨0,0⟩] fa ((n+1:Nat):Int) g2= .ok f:=by
 by_cases hn:n+1<24
 ·have r1:=wC hf h1
  obtain ⟨r2,s2⟩:=n8 (by omega) r1 (A:=fun P _=>P (n+1)∧P (n+2)) (B:=fun _ N=>N (n+1)∨N (n+2)) (fun _ s e=>Sq e) h2
  obtain ⟨g3,h3⟩:=zG r2 Bu (n:=n+1) fun h=>u3 h
  obtain ⟨r3,s3⟩:=n8 hn r2 (A:=fun _ _=>True) (B:=fun _ _=>False) (fun _ s e=>vu hn e) h3
  rw [h3]
  congr 1
  refine lK r3 hf fun P N hC=> ?_
  rw [s3 P N hC,s2 _ _ (fun e=>JQ (yK hC _ e) fun h=>h.2),sn hf.1 hn (b:=2) (by omega) h1]
  refine lL (fun j=> ?_) fun j=> ?_
  ·rcases Nat.lt_trichotomy j n with h|h|h
   ·have e:aV (n+1) 2 j=j:=if_pos (by omega)
    rw [e];unfold ba bV cY;grind
   ·have e:aV (n+1) 2 j=n:=by subst h;exact if_pos (by omega)
    rw [e];unfold ba bV cY;grind
   ·have e:aV (n+1) 2 j=j+2:=if_neg (by omega)
    rw [e];unfold ba bV cY;grind
  ·rcases Nat.lt_trichotomy j n with h|h|h
   ·have e:aV (n+1) 2 j=j:=if_pos (by omega)
    rw [e];unfold ba bV cY;grind
   ·have e:aV (n+1) 2 j=n:=by subst h;exact if_pos (by omega)
    rw [e];unfold ba bV cY;grind
   ·have e:aV (n+1) 2 j=j+2:=if_neg (by omega)
    rw [e];unfold ba bV cY;grind
 ·have e:f=g1:=by unfold bp at h1;rw [if_pos (by omega)] at h1;injection h1
  subst e
  have key: ∀ {g},g=f→aY 0 [⟨0,0⟩] fa ((n+1:Nat):Int) g= .ok f:=fun e=>by subst e;exact uw hf.1 (by omega)
  by_cases hn':n=23
  ·subst hn'
   by_cases hl:cJ f 23
   ·rw [qD (zU hl)] at h2
    injection h2 with h2
    refine key ?_
    rw [←h2]
    refine lK (fa:=fa) (py hf (by decide) hl) hf fun P N hC=> ?_
    show ak (aD ((23:Nat):Int) f) P N↔_
    rw [si hf.1 (by decide) hl]
    refine Rm fun c hc j=>⟨fun hj=> ?_,fun hj=> ?_⟩
    ·have h1:=wi (hf.1.rc hc) hj
     have h2:j≠23:=fun e=>(hl c hc).1 (e▸hj)
     unfold bV cY;rw [if_neg (by omega)];exact ⟨fun h=>h.2,fun h=>⟨h2,h⟩⟩
    ·have h1:=wh (hf.1.rc hc) hj
     have h2:j≠23:=fun e=>(hl c hc).2 (e▸hj)
     unfold bV cY;rw [if_neg (by omega)];exact ⟨fun h=>h.2,fun h=>⟨h2,h⟩⟩
   ·exfalso
    rw [jB] at h2;unfold aB at h2
    rw [Int.zero_add,if_pos (has_dims.2 ⟨by decide,hl⟩),j7 (show (aF [⟨6,0⟩] 0 ((23:Nat):Int)).2≠0 by decide)] at h2
    cases h2
  ·rw [uw hf.1 (by omega)] at h2
   injection h2 with h2
   exact key h2.symm
end Go.Proofs.YtapmagaejigpnaaGreatDoor
namespace Go.Proofs.YtapmagaejigpnaaGreatDoor
open Go PI
set_option linter.unusedVariables false
set_option linter.unusedSimpArgs false
set_option maxRecDepth 20000
abbrev gx:=Bool→Int→List Cl→List Cl→Prop
abbrev gw:=Int→List Cl→List Cl→Prop
mutual
def Rl (Ro:gx) (Rb:gw) (d:Int):Tm→Tm→Prop
 | .mk kd n nm r ks sys,t'=> ∃r' ks' sys',t'= .mk kd n nm r' ks' sys'∧Ro (decide (kd=14)) d r r'∧dI Ro Rb d kd 0 ks ks'∧dK Ro Rb d kd sys sys'
termination_by structural x _=>x
def dI (Ro:gx) (Rb:gw) (d kd:Int) (i:Nat):List Tm→List Tm→Prop
 |[],l'=>l'=[]
 |t::l,l'=> ∃t' m,l'=t'::m∧Rl Ro Rb (d+ci kd i) t t'∧dI Ro Rb d kd (i+1) l m
termination_by structural x _=>x
def dK (Ro:gx) (Rb:gw) (d kd:Int):List (Br Tm)→List (Br Tm)→Prop
 |[],l'=>l'=[]
 |b::l,l'=> ∃b' m,l'=b'::m∧lZ Ro Rb d kd b b'∧dK Ro Rb d kd l m
termination_by structural x _=>x
def lZ (Ro:gx) (Rb:gw) (d kd:Int):Br Tm→Br Tm→Prop
 | .mk f ks,b'=> ∃f' ks',b'= .mk f' ks'∧Rb d f f'∧dJ Ro Rb d kd ks ks'
termination_by structural x _=>x
def dJ (Ro:gx) (Rb:gw) (d kd:Int):List Tm→List Tm→Prop
 |[],l'=>l'=[]
 |t::l,l'=> ∃t' m,l'=t'::m∧Rl Ro Rb (d+ax kd) t t'∧dJ Ro Rb d kd l m
termination_by structural x _=>x
end
mutual
def dm (pl:Bool):Tm→Prop
 | .mk kd n nm r ks sys=>RX (decide (kd=14)) r∧dA pl ks∧gu pl sys
def dA (pl:Bool):List Tm→Prop
 |[]=>True
 |t::l=>dm pl t∧dA pl l
def gu (pl:Bool):List (Br Tm)→Prop
 |[]=>True
 |b::l=>ox pl b∧gu pl l
def ox (pl:Bool):Br Tm→Prop
 | .mk f ks=>(RX true f∧(pl=true→f≠[]))∧dA pl ks
end
def sH (c db:Int) (pl:Bool):gx:=fun fa d f g=>RX fa f∧bp (c+d) db f= .ok g
def sG (c db:Int) (pl:Bool):gw:=fun d f g=>(RX true f∧(pl=true→f≠[]))∧bp (c+d) db f= .ok g
section
variable {pl:Bool} {c vb db kd:Int} {fo fa:ca} {Ro Ro':gx} {Rb Rb':gw}
abbrev oz (pl:Bool) (c vb db:Int) (x:Tm):Prop:= ∀ {v d e:Int} {t':Tm},e=c+d→vb=0→dm pl x→bh vb db v e x= .ok t'→Rl (sH c db pl) (sG c db pl) d x t'
theorem SF: ∀ {l l':List Tm} {i:Nat} {v d e:Int},(∀x∈l,oz pl c vb db x)→e=c+d→vb=0→dA pl l→dg vb db v e kd i l= .ok l'→dI (sH c db pl) (sG c db pl) d kd i l l':=by
 intro l
 induction l with
 |nil=>intro l' i v d e _ _ _ _ hl;rw [dg] at hl;injection hl with hl;subst hl;rw [dI]
 |cons t l ih=>
  intro l' i v d e h he hv hp hl
  rw [dg] at hl
  obtain ⟨t',e1,hl⟩:=av hl
  obtain ⟨m,e2,hl⟩:=av hl
  injection hl with hl;subst hl
  rw [dA] at hp
  rw [dI]
  exact ⟨_,_,rfl,h t (by simp) (by omega) hv hp.1 e1,ih (fun x hx=>h x (by simp [hx])) he hv hp.2 e2⟩
theorem SG: ∀ {l l':List Tm} {v d e:Int},(∀x∈l,oz pl c vb db x)→e=c+d→vb=0→dA pl l→dh vb db v e kd l= .ok l'→dJ (sH c db pl) (sG c db pl) d kd l l':=by
 intro l
 induction l with
 |nil=>intro l' v d e _ _ _ _ hl;rw [dh] at hl;injection hl with hl;subst hl;rw [dJ]
 |cons t l ih=>
  intro l' v d e h he hv hp hl
  rw [dh] at hl
  obtain ⟨t',e1,hl⟩:=av hl
  obtain ⟨m,e2,hl⟩:=av hl
  injection hl with hl;subst hl
  rw [dA] at hp
  rw [dJ]
  exact ⟨_,_,rfl,h t (by simp) (by omega) hv hp.1 e1,ih (fun x hx=>h x (by simp [hx])) he hv hp.2 e2⟩
theorem SH: ∀ {l l':List (Br Tm)} {v d e:Int},(∀b∈l,∀x∈b.kids,oz pl c vb db x)→e=c+d→vb=0→gu pl l→cS vb db v e kd l= .ok l'→dK (sH c db pl) (sG c db pl) d kd l l':=by
 intro l
 induction l with
 |nil=>intro l' v d e _ _ _ _ hl;rw [cS] at hl;injection hl with hl;subst hl;rw [dK]
 |cons b l ih=>
  intro l' v d e h he hv hp hl
  rw [cS] at hl
  obtain ⟨b',e1,hl⟩:=av hl
  obtain ⟨m,e2,hl⟩:=av hl
  injection hl with hl;subst hl
  obtain ⟨f,ks⟩:=b
  rw [jQ] at e1
  obtain ⟨f',e3,e1⟩:=av e1
  obtain ⟨ks',e4,e1⟩:=av e1
  injection e1 with e1;subst e1
  rw [gu,ox] at hp
  rw [dK]
  refine ⟨_,_,rfl, ?_,ih (fun b hb=>h b (by simp [hb])) he hv hp.2 e2⟩
  rw [lZ]
  exact ⟨f',ks',rfl,⟨hp.1.1,he▸e3⟩,SG (h ⟨f,ks⟩ (by simp)) he hv hp.1.2 e4⟩
theorem AD (t:Tm):oz pl c vb db t:=by
 induction t using d3 with
 |h kd n nm r ks sys ih1 ih2=>
  intro v d e t' he hv hp h
  rw [dm] at hp
  rw [bh] at h
  split at h
  ·cases h
  obtain ⟨r1,e1,h⟩:=av h
  obtain ⟨ks1,e2,h⟩:=av h
  obtain ⟨sys1,e3,h⟩:=av h
  injection h with h;subst h
  rw [Rl]
  refine ⟨r1,ks1,sys1, ?_,⟨hp.1,he▸e1⟩,SF ih1 he hv hp.2.1 e2,SH ih2 he hv hp.2.2 e3⟩
  subst hv
  rw [Int.add_zero,ite_self]
abbrev oA (Ro Ro':gx) (Rb Rb':gw) (fo fa:ca) (x:Tm):Prop:= ∀ {d:Int} {t1 t2:Tm},0≤d→Rl Ro Rb d x t1→aw fo fa d t1= .ok t2→Rl Ro' Rb' d x t2
theorem SX: ∀ {l l' l2:List Tm} {i:Nat} {d:Int},(∀x∈l,oA Ro Ro' Rb Rb' fo fa x)→0≤d→dI Ro Rb d kd i l l'→aM fo fa d kd i l'= .ok l2→dI Ro' Rb' d kd i l l2:=by
 intro l
 induction l with
 |nil=>intro l' l2 i d _ _ hp hl;rw [dI] at hp;subst hp;rw [aM] at hl;injection hl with hl;subst hl;rw [dI]
 |cons t l ih=>
  intro l' l2 i d h hd hp hl
  rw [dI] at hp
  obtain ⟨t1,m1,rfl,q1,q2⟩:=hp
  rw [aM] at hl
  obtain ⟨t',e1,hl⟩:=av hl
  obtain ⟨m,e2,hl⟩:=av hl
  injection hl with hl;subst hl
  rw [dI]
  exact ⟨_,_,rfl,h t (by simp) (by have:=g7 kd i;omega) q1 e1,ih (fun x hx=>h x (by simp [hx])) hd q2 e2⟩
theorem SY: ∀ {l l' l2:List Tm} {d:Int},(∀x∈l,oA Ro Ro' Rb Rb' fo fa x)→0≤d→dJ Ro Rb d kd l l'→aR fo fa d kd l'= .ok l2→dJ Ro' Rb' d kd l l2:=by
 intro l
 induction l with
 |nil=>intro l' l2 d _ _ hp hl;rw [dJ] at hp;subst hp;rw [aR] at hl;injection hl with hl;subst hl;rw [dJ]
 |cons t l ih=>
  intro l' l2 d h hd hp hl
  rw [dJ] at hp
  obtain ⟨t1,m1,rfl,q1,q2⟩:=hp
  rw [aR] at hl
  obtain ⟨t',e1,hl⟩:=av hl
  obtain ⟨m,e2,hl⟩:=av hl
  injection hl with hl;subst hl
  rw [dJ]
  exact ⟨_,_,rfl,h t (by simp) (by have:=eQ kd;omega) q1 e1,ih (fun x hx=>h x (by simp [hx])) hd q2 e2⟩
theorem SZ (hB: ∀d f g g',0≤d→Rb d f g→fa d g= .ok g'→Rb' d f g'∧g'.length≠0): ∀ {l l' l2:List (Br Tm)} {d:Int},(∀b∈l,∀x∈b.kids,oA Ro Ro' Rb Rb' fo fa x)→0≤d→dK Ro Rb d kd l l'→aA fo fa d kd l'= .ok l2→dK Ro' Rb' d kd l l2:=by
 intro l
 induction l with
 |nil=>intro l' l2 d _ _ hp hl;rw [dK] at hp;subst hp;rw [aA] at hl;injection hl with hl;subst hl;rw [dK]
 |cons b l ih=>
  intro l' l2 d h hd hl hw
  rw [dK] at hl
  obtain ⟨b',m,rfl,q1,q2⟩:=hl
  obtain ⟨f,ks⟩:=b
  rw [lZ] at q1
  obtain ⟨f',ks',rfl,q3,q4⟩:=q1
  rw [aA] at hw
  obtain ⟨o,e1,hw⟩:=av hw
  obtain ⟨m',e2,hw⟩:=av hw
  injection hw with hw;subst hw
  rw [c_] at e1
  obtain ⟨g,e3,e1⟩:=av e1
  obtain ⟨h1,h2⟩:=hB _ _ _ _ hd q3 e3
  rw [if_neg h2] at e1
  obtain ⟨ks2,e4,e1⟩:=av e1
  injection e1 with e1;subst e1
  rw [dK]
  refine ⟨_,_,rfl, ?_,ih (fun b hb=>h b (by simp [hb])) hd q2 e2⟩
  rw [lZ]
  exact ⟨g,ks2,rfl,h1,SY (h ⟨f,ks⟩ (by simp)) hd q4 e4⟩
theorem Qi (hO: ∀b d f g g',0≤d→Ro b d f g→(if b then fa d g else fo d g)= .ok g'→Ro' b d f g') (hB: ∀d f g g',0≤d→Rb d f g→fa d g= .ok g'→Rb' d f g'∧g'.length≠0) (t:Tm):oA Ro Ro' Rb Rb' fo fa t:=by
 induction t using d3 with
 |h kd n nm r ks sys ih1 ih2=>
  intro d t1 t2 hd hp h
  rw [Rl] at hp
  obtain ⟨r1,ks1,sys1,rfl,q1,q2,q3⟩:=hp
  rw [aw] at h
  obtain ⟨r2,e1,h⟩:=av h
  obtain ⟨ks2,e2,h⟩:=av h
  obtain ⟨sys2,e3,h⟩:=av h
  injection h with h;subst h
  rw [Rl]
  exact ⟨r2,ks2,sys2,rfl,hO _ _ _ _ _ hd q1 (by simpa using e1),SX ih1 hd q2 e2,SZ hB ih2 hd q3 e3⟩
abbrev ow (Ro:gx) (Rb:gw) (fo fa:ca) (c:Int) (x:Tm):Prop:= ∀ {d e:Int} {t1:Tm},e=c+d→0≤d→Rl Ro Rb d x t1→aw fo fa e t1= .ok x
theorem Jy: ∀ {l l':List Tm} {i:Nat} {d e:Int},(∀x∈l,ow Ro Rb fo fa c x)→e=c+d→0≤d→dI Ro Rb d kd i l l'→aM fo fa e kd i l'= .ok l:=by
 intro l
 induction l with
 |nil=>intro l' i d e _ _ _ hp;rw [dI] at hp;subst hp;rw [aM]
 |cons t l ih=>
  intro l' i d e h he hd hp
  rw [dI] at hp
  obtain ⟨t1,m1,rfl,q1,q2⟩:=hp
  rw [aM,h t (by simp) (by omega) (by have:=g7 kd i;omega) q1,ao,ih (fun x hx=>h x (by simp [hx])) he hd q2,ao]
theorem Jz: ∀ {l l':List Tm} {d e:Int},(∀x∈l,ow Ro Rb fo fa c x)→e=c+d→0≤d→dJ Ro Rb d kd l l'→aR fo fa e kd l'= .ok l:=by
 intro l
 induction l with
 |nil=>intro l' d e _ _ _ hp;rw [dJ] at hp;subst hp;rw [aR]
 |cons t l ih=>
  intro l' d e h he hd hp
  rw [dJ] at hp
  obtain ⟨t1,m1,rfl,q1,q2⟩:=hp
  rw [aR,h t (by simp) (by omega) (by have:=eQ kd;omega) q1,ao,ih (fun x hx=>h x (by simp [hx])) he hd q2,ao]
theorem JA (hB: ∀d f g,0≤d→Rb d f g→fa (c+d) g= .ok f∧f.length≠0): ∀ {l l':List (Br Tm)} {d e:Int},(∀b∈l,∀x∈b.kids,ow Ro Rb fo fa c x)→e=c+d→0≤d→dK Ro Rb d kd l l'→aA fo fa e kd l'= .ok l:=by
 intro l
 induction l with
 |nil=>intro l' d e _ _ _ hp;rw [dK] at hp;subst hp;rw [aA]
 |cons b l ih=>
  intro l' d e h he hd hl
  rw [dK] at hl
  obtain ⟨b',m,rfl,q1,q2⟩:=hl
  obtain ⟨f,ks⟩:=b
  rw [lZ] at q1
  obtain ⟨f',ks',rfl,q3,q4⟩:=q1
  obtain ⟨h1,h2⟩:=hB _ _ _ hd q3
  rw [aA,c_,he,h1,ao,if_neg h2,←he,Jz (h ⟨f,ks⟩ (by simp)) he hd q4,ao,ao,ih (fun b hb=>h b (by simp [hb])) he hd q2,ao];rfl
theorem Dm (hO: ∀b d f g,0≤d→Ro b d f g→(if b then fa (c+d) g else fo (c+d) g)= .ok f) (hB: ∀d f g,0≤d→Rb d f g→fa (c+d) g= .ok f∧f.length≠0) (t:Tm):ow Ro Rb fo fa c t:=by
 induction t using d3 with
 |h kd n nm r ks sys ih1 ih2=>
  intro d e t1 he hd hp
  rw [Rl] at hp
  obtain ⟨r1,ks1,sys1,rfl,q1,q2,q3⟩:=hp
  have:=hO _ _ _ _ hd q1
  simp only [decide_eq_true_eq] at this
  rw [aw,he,this,ao,←he,Jy ih1 he hd q2,ao,JA hB ih2 he hd q3,ao]
abbrev oy (pl:Bool) (fo fa:ca) (x:Tm):Prop:= ∀ {d:Int},0≤d→dm pl x→ ∃t',aw fo fa d x= .ok t'
theorem Sm: ∀ {l:List Tm} {i:Nat} {d:Int},(∀x∈l,oy pl fo fa x)→0≤d→dA pl l→ ∃l',aM fo fa d kd i l= .ok l':=by
 intro l
 induction l with
 |nil=>exact fun _ _ _=>⟨[],by rw [aM]⟩
 |cons t l ih=>
  intro i d h hd hp
  rw [dA] at hp
  obtain ⟨t',e1⟩:=h t (by simp) (d:=d+ci kd i) (by have:=g7 kd i;omega) hp.1
  obtain ⟨l',e2⟩:=ih (i:=i+1) (fun x hx=>h x (by simp [hx])) hd hp.2
  exact ⟨_,by rw [aM,e1,ao,e2,ao]⟩
theorem Sn: ∀ {l:List Tm} {d:Int},(∀x∈l,oy pl fo fa x)→0≤d→dA pl l→ ∃l',aR fo fa d kd l= .ok l':=by
 intro l
 induction l with
 |nil=>exact fun _ _ _=>⟨[],by rw [aR]⟩
 |cons t l ih=>
  intro d h hd hp
  rw [dA] at hp
  obtain ⟨t',e1⟩:=h t (by simp) (d:=d+ax kd) (by have:=eQ kd;omega) hp.1
  obtain ⟨l',e2⟩:=ih (fun x hx=>h x (by simp [hx])) hd hp.2
  exact ⟨_,by rw [aR,e1,ao,e2,ao]⟩
theorem So (hB: ∀d f,0≤d→RX true f→ ∃g,fa d f= .ok g): ∀ {l:List (Br Tm)} {d:Int},(∀b∈l,∀x∈b.kids,oy pl fo fa x)→0≤d→gu pl l→ ∃l',aA fo fa d kd l= .ok l':=by
 intro l
 induction l with
 |nil=>exact fun _ _ _=>⟨[],by rw [aA]⟩
 |cons b l ih=>
  intro d h hd hp
  rw [gu] at hp
  obtain ⟨l',e⟩:=ih (fun b hb=>h b (by simp [hb])) hd hp.2
  obtain ⟨f,ks'⟩:=b
  have hp1:=hp.1
  rw [ox] at hp1
  obtain ⟨g,eg⟩:=hB d f hd hp1.1.1
  obtain ⟨m,em⟩:=Sn (kd:=kd) (h ⟨f,ks'⟩ (by simp)) hd hp1.2
  rw [aA,c_,eg,ao,em,e]
  split<;>exact ⟨_,rfl⟩
theorem SU (hO: ∀b d f,0≤d→RX b f→ ∃g,(if b then fa d f else fo d f)= .ok g) (t:Tm):oy pl fo fa t:=by
 induction t using d3 with
 |h kd n nm r ks sys ih1 ih2=>
  intro d hd hp
  rw [dm] at hp
  obtain ⟨g,eg⟩:=hO _ d r hd hp.1
  obtain ⟨k',ek⟩:=Sm (kd:=kd) (i:=0) ih1 hd hp.2.1
  obtain ⟨s',es⟩:=So (kd:=kd) (fun d f hd hf=>by simpa using hO true d f hd hf) ih2 hd hp.2.2
  simp only [decide_eq_true_eq] at eg
  exact ⟨_,by rw [aw,eg,ao,ek,ao,es,ao]⟩
end
theorem rf {d:Int} (h:0≤d): ∃n:Nat,d=n:=⟨d.toNat,by omega⟩
theorem qK (b:Bool) (r:List Cl) (d:Int) (f:List Cl):(if b then aY 0 r true d f else aY 0 r false d f)=aY 0 r b d f:=by cases b<;>rfl
theorem Si {r:List Cl} {t t':Tm} {v:Int} (hp:dm true t) (h:bh 0 1 v 0 t= .ok t'):aw (aY 0 r false) (aY 0 r true) 0 t'= .ok t:=by
 have h1:=AD (c:=0) (db:=1) (d:=0) t (by rfl) rfl hp h
 refine Dm (c:=0) (fun b d f g hd hr=> ?_) (fun d f g hd hr=> ?_) t (by rfl) (by decide) h1
 ·obtain ⟨n,rfl⟩:=rf hd
  rw [qK,Int.zero_add]
  obtain ⟨h1,h2⟩:=hr
  rw [Int.zero_add] at h2
  exact zH h1 h2
 ·obtain ⟨n,rfl⟩:=rf hd
  rw [Int.zero_add]
  obtain ⟨⟨h1,h3⟩,h2⟩:=hr
  rw [Int.zero_add] at h2
  exact ⟨zH h1 h2,fun e=>h3 rfl (List.length_eq_zero_iff.1 e)⟩
theorem LB {r:List Cl} {fa:Bool} {d:Int} {f:List Cl} (h:aY 0 r fa d []= .ok f):f=[]:=by
 rw [zE] at h;injection h with h;exact h.symm
theorem Sh {t t1 t2:Tm} {v:Int} (hp:dm true t) (h:bh 0 2 v 1 t= .ok t1) (h2:aw (aY 0 [⟨6,0⟩] false) (aY 0 [⟨6,0⟩] true) 0 t1= .ok t2):aw (aY 0 [⟨0,0⟩] false) (aY 0 [⟨0,0⟩] true) 1 t2= .ok t:=by
 have h1:=AD (c:=1) (db:=2) (d:=0) t (by rfl) rfl hp h
 have key: ∀b d f g g',0≤d→RX b f→bp (1+d) 2 f= .ok g→aY 0 [⟨6,0⟩] b d g= .ok g'→aY 0 [⟨0,0⟩] b (1+d) g'= .ok f:=fun b d f g g' hd hf h1 h2=>by
  obtain ⟨n,rfl⟩:=rf hd
  rw [show (1:Int)+(n:Int)=((n+1:Nat):Int) by omega] at h1 ⊢
  exact LA hf h1 h2
 have h3:=Qi (Ro':=fun b d f g=>aY 0 [⟨0,0⟩] b (1+d) g= .ok f) (Rb':=fun d f g=>aY 0 [⟨0,0⟩] true (1+d) g= .ok f∧f.length≠0) (fun b d f g g' hd hr hw=> ?_) (fun d f g g' hd hr hw=> ?_) t (by decide) h1 h2
 ·exact Dm (c:=1) (fun b d f g hd hr=>by rw [qK];exact hr) (fun d f g hd hr=>hr) t (by rfl) (by decide) h3
 ·rw [qK] at hw
  exact key b d f g g' hd hr.1 hr.2 hw
 ·have:=key true d f g g' hd hr.1.1 hr.2 hw
  refine ⟨⟨this,fun e=>hr.1.2 rfl (List.length_eq_zero_iff.1 e)⟩,fun e=> ?_⟩
  rw [List.length_eq_zero_iff.1 e] at this
  exact hr.1.2 rfl (LB this)
theorem FM {pl:Bool} {r:List Cl} {t:Tm} (hp:dm pl t) (hr:ji r) (hl: ∀n:Nat,n<24→aF r 0 n=(r,0)): ∃t',aw (aY 0 r false) (aY 0 r true) 0 t= .ok t':=
 SU (fun b d f hd hf=>by
  obtain ⟨n,rfl⟩:=rf hd
  rw [qK]
  exact zG hf hr (hl n)) t (by decide) hp
end Go.Proofs.YtapmagaejigpnaaGreatDoor
namespace Go.Proofs.YtapmagaejigpnaaGreatDoor
open Go PI
set_option linter.unusedVariables false
set_option linter.unusedSimpArgs false
set_option maxRecDepth 20000
variable {S:Type} {k:Nat}
def iN (sys:List (Br Tm)):Bool:=sys.any fun b=>(b.face.length:Int)==0
theorem Q3 (hk:Fu k) {l:List (Br Tm)} (hl:l.length<1073741824) (ret:Bool→Option S):t8 k l ret=ret (iN l):=by
 have: ∀ (r p:List (Br Tm)) (m:Nat),l=p++r→r.length<m→kV k ret l m (p.length:Int)=ret (iN r):=by
  intro r
  induction r with
  |nil=>
   intro p m h hm
   obtain ⟨m,rfl,hm'⟩:=ap hm
   simp only [kV,oZ,aL h,ac];rfl
  |cons x r ih=>
   intro p m h hm
   obtain ⟨m,rfl,hm'⟩:=ap hm
   obtain ⟨e1,e2,e3,e4⟩:=aK h (by omega)
   simp only [kV,oZ,e1,ag,e2,Option.bind_some,e3,ih _ m e4 hm',iN,List.any_cons]
   cases ((x.face.length:Int)==0)<;>rfl
 exact this l [] k rfl (by have:4294967296≤k:=hk;omega)
mutual
def cO:Tm→Bool
 | .mk _ _ _ _ ks sys=> !iN sys&&(dr ks&&gT sys)
def dr:List Tm→Bool
 |[]=>true
 |t::l=>cO t&&dr l
def gT:List (Br Tm)→Bool
 |[]=>true
 |b::l=>rm b&&gT l
def rm:Br Tm→Bool
 | .mk _ ks=>dr ks
end
theorem Ph (t:Tm):cO t=(!iN t.sys&&(dr t.kids&&gT t.sys)):=by cases t;rw [cO];rfl
theorem Pg (b:Br Tm):rm b=dr b.kids:=by cases b;rw [rm]
section
variable {hd:Tm→(Bool→Option S)→Option S} {t:Tm}
theorem NH (hk:Fu k) (ret:Bool→Option S) (rec1:Int→Option S) {v:Int} {x:Br Tm} (hQ: ∀y∈x.kids,∀g,hd y g=g (cO y)) (hl:x.kids.length<1073741824):
  ∀ (r p:List Tm) (m:Nat),x.kids=p++r→r.length<m→jI hd k ret rec1 t v x m (p.length:Int)=ab (dr r) (rec1 (IntKind.wrap .i64 (v+1))) (ret false):=by
 intro r
 induction r with
 |nil=>
  intro p m h hm
  obtain ⟨m,rfl,hm'⟩:=ap hm
  simp only [jI,o0,aL h,ac,dr,ag]
 |cons y r ih=>
  intro p m h hm
  obtain ⟨m,rfl,hm'⟩:=ap hm
  obtain ⟨e1,e2,e3,e4⟩:=aK h (by omega)
  simp only [jI,o0,e1,ag,e2,Option.bind_some,a8,hQ y (by rw [h];simp),e3,ih _ m e4 hm',dr]
  cases cO y<;>rfl
theorem NG (hk:Fu k) (ret:Bool→Option S) (hQ: ∀b∈t.sys,∀y∈b.kids,∀g,hd y g=g (cO y)) (ht:OkT t):
  ∀ (r p:List (Br Tm)) (m:Nat),t.sys=p++r→r.length<m→gN hd k ret t m (p.length:Int)=ret (gT r):=by
 obtain ⟨o1,o2,o3,o4,o5,o6,o7⟩:=ht.no
 intro r
 induction r with
 |nil=>
  intro p m h hm
  obtain ⟨m,rfl,hm'⟩:=ap hm
  simp only [gN,me,aL h,ac,gT]
 |cons x r ih=>
  intro p m h hm
  obtain ⟨m,rfl,hm'⟩:=ap hm
  obtain ⟨e1,e2,e3,e4⟩:=aK h (by omega)
  have hx:x∈t.sys:=by rw [h];simp
  have:=NH (t:=t) hk ret (gN hd k ret t m) (v:=(p.length:Int)) (hQ x hx) (ht.bi hx).1.2.2 x.kids [] k rfl (by have:=(ht.bi hx).1.2.2;have:4294967296≤k:=hk;omega)
  simp only [List.length_nil] at this
  simp only [gN,me,e1,ag,e2,Option.bind_some]
  refine Eq.trans this ?_
  rw [e3,ih _ m e4 hm',gT,Pg]
  cases dr x.kids<;>rfl
theorem NF (hk:Fu k) (ret:Bool→Option S) (hQ: ∀y∈t.kids,∀g,hd y g=g (cO y)) (hQ': ∀b∈t.sys,∀y∈b.kids,∀g,hd y g=g (cO y)) (ht:OkT t):
  ∀ (r p:List Tm) (m:Nat),t.kids=p++r→r.length<m→kW hd k ret t m (p.length:Int)=ret (dr r&&gT t.sys):=by
 obtain ⟨o1,o2,o3,o4,o5,o6,o7⟩:=ht.no
 intro r
 have hs:=NG hk ret hQ' ht t.sys [] k rfl (by have:4294967296≤k:=hk;omega)
 induction r with
 |nil=>
  intro p m h hm
  obtain ⟨m,rfl,hm'⟩:=ap hm
  simp only [kW,md,aL h,ac,dr,Bool.true_and]
  exact hs
 |cons y r ih=>
  intro p m h hm
  obtain ⟨m,rfl,hm'⟩:=ap hm
  obtain ⟨e1,e2,e3,e4⟩:=aK h (by omega)
  simp only [kW,md,e1,ag,e2,Option.bind_some,a8,hQ y (by rw [h];simp),e3,ih _ m e4 hm',dr]
  cases cO y<;>rfl
end
theorem D6 (t:Tm):OkT t→ ∀ {k:Nat} (ret:Bool→Option S),Fd k (ay t)→d8 k t ret=ret (cO t):=by
 induction t using gj with
 |h t ih1 ih2=>
  intro ht k ret hk
  obtain ⟨q,rfl,hq,hf⟩:=hk.pos' (dQ t)
  obtain ⟨o1,o2,o3,o4,o5,o6,o7⟩:=ht.no
  have hQ: ∀y∈t.kids,∀ (g:Bool→Option S),d8 q y g=g (cO y):=fun y hy g=>ih1 y hy (ht.ki hy) g (hf _ (ee hy))
  have hQ': ∀b∈t.sys,∀y∈b.kids,∀ (g:Bool→Option S),d8 q y g=g (cO y):=fun b hb y hy g=>ih2 b hb y hy ((ht.bi hb).2 y hy) g (hf _ (d_ hb hy))
  have:=NF hq ret hQ hQ' ht t.kids [] q rfl (by have:4294967296≤q:=hq;omega)
  simp only [List.length_nil] at this
  simp only [d8,xu,am hq,Q3 hq o7]
  rw [Ph]
  cases iN t.sys
  ·exact this
  ·rfl
theorem wB {f:List Cl} (hf:ai f) (h:bj f=true):RX true f:=by
 have:=(j0 hf).1 h
 exact ⟨this.1,fun _=>this.2⟩
theorem Pf {vars dims kd n nm r ks sys} (hok:OkT (.mk kd n nm r ks sys)) (h:f8 vars dims (.mk kd n nm r ks sys)=true):RX (decide (kd=14)) r∧ ∀b∈sys,RX true b.face:=by
 obtain ⟨o1,o2,o3,o4,o5,o6,o7⟩:=hok.node
 unfold f8 at h
 simp only [Bool.and_eq_true,decide_eq_true_eq] at h
 obtain ⟨⟨a1,a2,a3,a4⟩,a5⟩:=h
 have r0:r.length=0→RX (decide (kd=14)) r:=fun h=>by
  have:=List.length_eq_zero_iff.1 h;subst this;exact ⟨gc,fun _ c hc=>by cases hc⟩
 have nosys:dk kd=0→ ∀b∈sys,RX true b.face:=fun h=>by
  have:=List.length_eq_zero_iff.1 (a4 h);subst this;exact fun b hb=>by cases hb
 split at a5
 ·rename_i c
  simp only [Bool.and_eq_true,decide_eq_true_eq] at a5
  exact ⟨r0 a5.1,nosys (by subst c;decide)⟩
 split at a5
 ·rename_i c
  simp only [Bool.and_eq_true,decide_eq_true_eq] at a5
  exact ⟨r0 a5.1,nosys (by subst c;decide)⟩
 split at a5
 ·rename_i c
  rw [Bool.and_eq_true] at a5
  exact ⟨⟨(gf o4).1 a5.1,fun h=>by rcases c with rfl|rfl|rfl<;>cases h⟩,nosys (by rcases c with rfl|rfl|rfl<;>decide)⟩
 split at a5
 ·rename_i c
  rw [Bool.and_eq_true] at a5
  subst c
  exact ⟨wB o4 a5.1,nosys (by decide)⟩
 ·simp only [Bool.and_eq_true,decide_eq_true_eq] at a5
  refine ⟨r0 a5.2,fun b hb=> ?_⟩
  have:=List.all_eq_true.1 a5.1 b hb
  unfold fJ at this
  simp only [Bool.and_eq_true] at this
  exact wB (hok.br hb).1.1 this.2.1
theorem Jc {bd pl:Bool} (t:Tm): ∀ {vars dims:Int},OkT t→bH bd vars dims t=true→(pl=true→cO t=true)→dm pl t:=by
 induction t using d3 with
 |h kd n nm r ks sys ih1 ih2=>
  intro vars dims hok h hp
  rw [bH,Bool.and_eq_true,Bool.and_eq_true,Bool.and_eq_true] at h
  obtain ⟨_,a,b,c⟩:=h
  obtain ⟨hr,hb⟩:=Pf hok a
  have hok':=hok
  rw [OkT] at hok'
  obtain ⟨_,ok,os⟩:=hok'
  rw [cO] at hp
  simp only [Bool.and_eq_true,Bool.not_eq_true'] at hp
  have hk: ∀ {l:List Tm} {i:Nat},(∀x∈l,∀ {vars dims:Int},OkT x→bH bd vars dims x=true→(pl=true→cO x=true)→dm pl x)→bt l→dL bd vars dims kd i l=true→(pl=true→dr l=true)→dA pl l:=by
   intro l
   induction l<;>grind [dL,dA,dr,bt]
  have hm: ∀ {l:List Tm},(∀x∈l,∀ {vars dims:Int},OkT x→bH bd vars dims x=true→(pl=true→cO x=true)→dm pl x)→bt l→dM bd vars dims kd l=true→(pl=true→dr l=true)→dA pl l:=by
   intro l
   induction l<;>grind [dM,dA,dr,bt]
  have hs: ∀ {l:List (Br Tm)},(∀b∈l,∀x∈b.kids,∀ {vars dims:Int},OkT x→bH bd vars dims x=true→(pl=true→cO x=true)→dm pl x)→bG l→(∀b∈l,RX true b.face)→cW bd vars dims kd l=true→(pl=true→iN l=false∧gT l=true)→gu pl l:=by
   intro l
   induction l with
   |nil=>intro _ _ _ _ _;rw [gu];trivial
   |cons b l ih=>
    intro h1 h2 h3 h4 h5
    obtain ⟨f,ks'⟩:=b
    rw [bG] at h2
    rw [j_] at h2
    rw [cW,l6,Bool.and_eq_true] at h4
    rw [iN,List.any_cons,Bool.or_eq_false_iff,gT,rm,Bool.and_eq_true] at h5
    rw [gu,ox]
    refine ⟨⟨⟨h3 ⟨f,ks'⟩ (by simp),fun e he=> ?_⟩,hm (h1 ⟨f,ks'⟩ (by simp)) h2.1.2 h4.1 fun e=>(h5 e).2.1⟩,ih (fun b hb=>h1 b (by simp [hb])) h2.2 (fun b hb=>h3 b (by simp [hb])) h4.2 fun e=>⟨(h5 e).1.2,(h5 e).2.2⟩⟩
    have h6:=(h5 e).1.1
    subst he
    cases h6
  rw [dm]
  exact ⟨hr,hk ih1 ok b fun e=>(hp e).2.1,hs ih2 os hb c fun e=>⟨(hp e).1,(hp e).2.2⟩⟩
theorem Fm.pl {t:Tm} {pl:Bool} (h:Fm t) (hp:pl=true→cO t=true):dm pl t:=by
 have:=h.2
 unfold cz at this
 split at this
 ·cases this
 split at this
 ·cases this
 split at this
 ·rename_i h3;exact Jc t h.1 h3 hp
 ·cases this
end Go.Proofs.YtapmagaejigpnaaGreatDoor
namespace Go.Proofs.YtapmagaejigpnaaGreatDoor
open Go PI
set_option linter.unusedVariables false
set_option linter.unusedSimpArgs false
set_option maxRecDepth 20000
variable {S:Type} {k:Nat}
theorem N8 (t:Tm): ∀ {v d:Int} {t':Tm},bh 0 0 v d t= .ok t'→t'=t:=by
 induction t using d3 with
 |h kd n nm r ks sys ih1 ih2=>
  intro v d t' h
  rw [bh] at h
  split at h
  ·cases h
  obtain ⟨r1,e1,h⟩:=av h
  obtain ⟨ks1,e2,h⟩:=av h
  obtain ⟨sys1,e3,h⟩:=av h
  injection h with h;subst h
  have hk: ∀ {l l':List Tm} {i:Nat},(∀x∈l,∀ {v d:Int} {t':Tm},bh 0 0 v d x= .ok t'→t'=x)→dg 0 0 v d kd i l= .ok l'→l'=l:=by
   intro l
   induction l<;>grind [dg,→av]
  have hm: ∀ {l l':List Tm},(∀x∈l,∀ {v d:Int} {t':Tm},bh 0 0 v d x= .ok t'→t'=x)→dh 0 0 v d kd l= .ok l'→l'=l:=by
   intro l
   induction l<;>grind [dh,→av]
  have hs: ∀ {l l':List (Br Tm)},(∀b∈l,∀x∈b.kids,∀ {v d:Int} {t':Tm},bh 0 0 v d x= .ok t'→t'=x)→cS 0 0 v d kd l= .ok l'→l'=l:=by
   intro l
   induction l with
   |nil=>grind [cS]
   |cons b l ih=>
    obtain ⟨f,ks'⟩:=b
    intro l' h hl
    rw [cS,jQ] at hl
    obtain ⟨b',q1,hl⟩:=av hl
    obtain ⟨m,q2,hl⟩:=av hl
    obtain ⟨f',q3,q1⟩:=av q1
    obtain ⟨k',q4,q1⟩:=av q1
    have:=hm (h ⟨f,ks'⟩ (by simp)) q4
    have:=ih (fun b hb=>h b (by simp [hb])) q2
    grind [bp]
  have e1':r1=r:=by unfold bp at e1;rw [if_pos (.inl rfl)] at e1;injection e1 with e1;exact e1.symm
  rw [e1',hk ih1 e2,hs ih2 e3,Int.add_zero,ite_self]
theorem Sw {b:Int} {t t':Tm} (h:fE 0 b t= .ok t'):bh 0 b 0 0 t= .ok t':=by
 unfold fE at h
 obtain ⟨m,h1,h2⟩:=av h
 rw [N8 t h1] at h2;exact h2
theorem SW {r:List Cl} {t t':Tm} (hp:dm true t) (h:fE 0 1 t= .ok t'):aw (aY 0 r false) (aY 0 r true) 0 t'= .ok t:=Si hp (Sw h)
theorem Jn {t t1:Tm} (h:fH [⟨3,0⟩] t= .ok t1): ∃m,bh 0 2 0 1 t= .ok m∧aw (aY 0 [⟨6,0⟩] false) (aY 0 [⟨6,0⟩] true) 0 m= .ok t1:=by
 unfold fH at h
 obtain ⟨m,h1,h⟩:=av h
 unfold eT at h
 rw [show aF [⟨3,0⟩] 0 1=([⟨6,0⟩],0) from by decide,g0 rfl,ao] at h
 exact ⟨m,h1,h⟩
theorem ST {t t1:Tm} (hp:dm true t) (h:fH [⟨3,0⟩] t= .ok t1):aw (aY 0 [⟨0,0⟩] false) (aY 0 [⟨0,0⟩] true) 1 t1= .ok t:=by
 obtain ⟨m,h1,h2⟩:=Jn h
 exact Sh hp h1 h2
theorem xQ (t:Tm):eT 0 [⟨0,0⟩] t=aw (aY 0 [⟨0,0⟩] false) (aY 0 [⟨0,0⟩] true) 0 t:=by
 unfold eT
 rw [show aF [⟨0,0⟩] 0 1=([⟨0,0⟩],0) from by decide,g0 rfl,ao]
theorem FK (t:Tm):eT 0 [] t=aw (aY 0 [] false) (aY 0 [] true) 0 t:=by
 unfold eT
 rw [show bP (aF [] 0 1)= .ok [] from rfl,ao]
theorem FL {t:Tm} (h:Fm t): ∃t',eT 0 [⟨0,0⟩] t= .ok t':=by
 rw [xQ];exact FM (h.pl (pl:=false) fun h=>by cases h) Bu fun n hn=>u3 hn
theorem Sg {t:Tm} (h:Fm t): ∃t',eT 0 [] t= .ok t':=by
 rw [FK];exact FM (h.pl (pl:=false) fun h=>by cases h) Oo fun n hn=>rfl
theorem Tb {n:Nat} {s:List Cl} (h:bP (aF [] 0 n)= .ok s):cJ s n∧(aU s).2=0∧ ∀P N:En,(ak s P N↔False)∧(ak (aU s).1 P N↔True):=by
 rw [show aF [] 0 n=([],0) from rfl] at h
 obtain ⟨_,rfl⟩:=d4 h
 exact ⟨fun c hc=>(by cases hc),rfl,fun P N=>⟨⟨lN P N,False.elim⟩,sh P N⟩⟩
def ou (phi:List Cl) (en:Cl) (f:List Cl):Prop:= ∃f1,bP (aF phi 0 1)= .ok f1∧bP (dE f1 [en])= .ok f
theorem tt {phi f:List Cl} {en:Cl} (hp:RX true phi) (he:RC en) (hc:bv en=false) (h:ou phi en f):RX true f∧ ∀P N,(ak f P N↔ak phi (fun x=>P (x+1)) (fun x=>N (x+1))∨a7 en P N):=by
 obtain ⟨f1,h1,h2⟩:=h
 have hr:bp 0 1 phi= .ok f1:=by unfold bp;rw [if_neg (by decide)];exact h1
 have x1:=wC hp hr
 have re:=cD he
 obtain ⟨h0,rfl⟩:=d4 h2
 have rj:=Aa x1.1.2 re.2 h0
 refine ⟨⟨rj.1,fun _=>rj.2⟩,fun P N=> ?_⟩
 have hfa:bj f1=true:=RFa.right ⟨x1.1,x1.2 rfl⟩
 have hfe:bj [en]=true:=RFa.right ⟨re,fun c hc'=>by simp at hc';subst hc';exact hc⟩
 unfold dE at h0 ⊢
 rw [hfa,hfe] at h0 ⊢
 simp only [Bool.and_self,if_true] at h0 ⊢
 rw [sk x1.1.2 re.2 h0,i8]
 refine or_congr ?_ Iff.rfl
 have:=sn (n:=0) (b:=1) hp.1 (by decide) (by decide) hr P N
 rw [this]
 exact lL (fun j=>by unfold aV;rw [if_neg (by omega)]) fun j=>by unfold aV;rw [if_neg (by omega)]
theorem Ma (P:En) (A:Prop) (x:Nat):ba (bV P 0) 0 A (x+1)↔P x:=by unfold ba bV cY;simp
theorem xZ (P:En) (A:Prop):ba P 0 A 0↔A:=by unfold ba;simp
theorem yI (P N:En):a7 ⟨0,1⟩ P N↔N 0:=by
 unfold a7 hp hn
 constructor
 ·exact fun h=>h.2 0 (by decide)
 ·intro h
  refine ⟨fun j hj=>by simp at hj,fun j hj=> ?_⟩
  rcases j with _|j
  ·exact h
  ·have:(1:Nat).testBit (j+1)=false:=by rw [Nat.testBit_succ];simp
   exact absurd hj (by show ¬ (1:Nat).testBit (j+1)=true;rw [this];decide)
theorem JN (P N:En):a7 ⟨1,0⟩ P N↔P 0:=by
 unfold a7 hp hn
 constructor
 ·exact fun h=>h.1 0 (by decide)
 ·intro h
  refine ⟨fun j hj=> ?_,fun j hj=>by simp at hj⟩
  rcases j with _|j
  ·exact h
  ·have:(1:Nat).testBit (j+1)=false:=by rw [Nat.testBit_succ];simp
   exact absurd hj (by show ¬ (1:Nat).testBit (j+1)=true;rw [this];decide)
theorem Dd:RC ⟨0,1⟩:=⟨⟨by decide,by decide⟩,by decide,by decide⟩
theorem P4:RC ⟨1,0⟩:=⟨⟨by decide,by decide⟩,by decide,by decide⟩
theorem DM:RX true [⟨0,0⟩]:=⟨cD fy,fun _ c hc=>by simp at hc;subst hc;decide⟩
theorem Je {phi f g:List Cl} (hp:RX true phi) (h:ou phi ⟨0,1⟩ f) (hg:aY 0 [⟨0,0⟩] true 0 f= .ok g):g=phi:=by
 obtain ⟨hf,hs⟩:=tt hp Dd (by decide) h
 obtain ⟨rg,hs2⟩:=n8 (n:=0) (by decide) hf (A:=fun _ _=>True) (B:=fun _ _=>False) (fun _ s e=>vu (by decide) e) hg
 refine lK rg hp fun P N hC=> ?_
 rw [hs2 P N hC,hs,yI]
 simp only [Ma,xZ,or_false]
theorem yh {phi f g:List Cl} {en:Cl} {r:List Cl} (hr:(en=⟨0,1⟩∧r=[])∨(en=⟨1,0⟩∧r=[⟨0,0⟩])) (hp:RX true phi) (h:ou phi en f) (hg:aY 0 r true 0 f= .ok g):g=[⟨0,0⟩]:=by
 rcases hr with ⟨rfl,rfl⟩|⟨rfl,rfl⟩
 ·obtain ⟨hf,hs⟩:=tt hp Dd (by decide) h
  obtain ⟨rg,hs2⟩:=n8 (n:=0) (by decide) hf (A:=fun _ _=>False) (B:=fun _ _=>True) (fun _ s e=>Tb e) hg
  refine lK rg DM fun P N hC=> ?_
  rw [hs2 P N hC,hs,yI,sh]
  simp only [xZ,or_true]
 ·obtain ⟨hf,hs⟩:=tt hp P4 (by decide) h
  obtain ⟨rg,hs2⟩:=n8 (n:=0) (by decide) hf (A:=fun _ _=>True) (B:=fun _ _=>False) (fun _ s e=>vu (by decide) e) hg
  refine lK rg DM fun P N hC=> ?_
  rw [hs2 P N hC,hs,JN,sh]
  simp only [xZ,or_true]
theorem yi {line a t:Tm} {phi r:List Cl} {en:Cl} (h:fG line phi a en r= .ok t):fA [line,a]=0∧bj phi=true∧cz t=0∧jm line phi a en r= .ok t∧
  ∃f l a',ou phi en f∧fH r line= .ok l∧fE 0 1 a= .ok a'∧t= .mk 14 0 ByteArray.empty f [l,a'] []:=by
 unfold fG at h
 split at h
 case isFalse=>cases h
 rename_i h1
 split at h
 case isFalse=>cases h
 rename_i h2
 unfold qf at h
 obtain ⟨t',h3,h⟩:=av h
 split at h
 case isFalse=>cases h
 rename_i h4
 injection h with h;subst h
 refine ⟨h1,h2,h4,h3, ?_⟩
 unfold jm at h3
 obtain ⟨f1,e1,h3⟩:=av h3
 obtain ⟨f,e2,h3⟩:=av h3
 obtain ⟨l,e3,h3⟩:=av h3
 obtain ⟨a',e4,h3⟩:=av h3
 injection h3 with h3
 exact ⟨f,l,a',⟨f1,e1,e2⟩,e3,e4,h3.symm⟩
theorem x_ {fo fa:ca} {d:Int} {f:List Cl} {l a t:Tm} (h:aw fo fa d (.mk 14 0 ByteArray.empty f [l,a] [])= .ok t):
  ∃g l' a',fa d f= .ok g∧aw fo fa (d+1) l= .ok l'∧aw fo fa d a= .ok a'∧t= .mk 14 0 ByteArray.empty g [l',a'] []:=by
 rw [aw] at h
 obtain ⟨g,e1,h⟩:=av h
 obtain ⟨ks,e2,h⟩:=av h
 obtain ⟨s,e3,h⟩:=av h
 injection h with h
 rw [if_pos rfl] at e1
 rw [aM] at e2
 obtain ⟨l',e4,e2⟩:=av e2
 obtain ⟨m,e5,e2⟩:=av e2
 injection e2 with e2
 rw [aM] at e5
 obtain ⟨a',e6,e5⟩:=av e5
 obtain ⟨m',e7,e5⟩:=av e5
 injection e5 with e5
 rw [aM] at e7
 injection e7 with e7
 rw [aA] at e3
 injection e3 with e3
 subst e7 e5 e2 e3
 exact ⟨g,l',a',e1,e4,by simpa [ci] using e6,h.symm⟩
theorem Qv (hk:F3 k) {line a:Tm} {phi:List Cl} (hl:In k line) (hp:ai phi) (hpl:phi.length<1073741824) (ha:In k a) (ret:Bool→Option S):t7 k line phi a ret=ret true:=by
 simp only [t7,Ff,am hk.fu,a8,Rh hk,ag,Bool.not_true,ac]
 refine Eq.trans (QW hk hl ha (Oz hk) _).choose_spec ?_
 generalize Exists.choose _=c
 cases c with
 |true=>rfl
 |false=>
  rw [ac]
  cases decide ((phi.length:Int)>24) with
  |true=>rfl
  |false=>
   rw [ac,D6 line hl.1 _ hl.2.1]
   cases pl:cO line with
   |false=>rfl
   |true=>
    rw [Bool.not_true,ac,D6 a ha.1 _ ha.2.1]
    cases pa:cO a with
    |false=>rfl
    |true=>
     rw [Bool.not_true,ac,QD hk hl ha hp hpl,Qu hk hl ha hp hpl]
     have hen: ∀ {en r e},fG line phi a en r= .error e→e≠0:=by
      intro en r e h
      unfold fG at h
      split at h
      ·split at h
       ·unfold qf at h
        rcases bm h with h|⟨t,_,h⟩
        ·have:=Jf h;omega
        ·split at h
         ·cases h
         ·rename_i hne;injection h with h;exact h▸hne
       ·injection h with h;omega
      ·rename_i hne;injection h with h;exact h▸hne
     cases h1:fG line phi a ⟨0,1⟩ [⟨3,0⟩] with
     |error e=>
      have:=hen h1
      rw [show (tE (.error e)).2=e from rfl,show ((e==0):Bool)=false from by simpa using this];rfl
     |ok r=>
      cases h2:fG line phi a ⟨1,0⟩ [⟨0,1⟩,⟨2,0⟩] with
      |error e=>
       have:=hen h2
       rw [show (tE (.error e)).2=e from rfl,show ((e==0):Bool)=false from by simpa using this];rfl
      |ok b=>
       obtain ⟨so,hph,fr,tor,f,l,a',al,hat,hup,er⟩:=yi h1
       obtain ⟨_,_,fb,tob,f',l',a'',al',_,_,eb⟩:=yi h2
       have fms:=Ep (l:=[line,a]) (fun t ht=>by
        rcases List.mem_cons.1 ht with rfl|ht
        ·exact hl.1
        ·rw [List.mem_singleton.1 ht];exact ha.1) so
       have fl:=fms line (by simp)
       have fa:=fms a (by simp)
       have xp:=wB hp hph
       have ir:=tu hk fl fa xp.1 BE tor
       have ib:=tu hk fl fa xp.1 BF tob
       have mr:Fm r:=⟨ir.1.1,fr⟩
       have mb:Fm b:=⟨ib.1.1,fb⟩
       obtain ⟨x,ex⟩:=FL mr
       obtain ⟨y,ey⟩:=Sg mr
       obtain ⟨z,ez⟩:=FL mb
       simp only [show ∀t,(tE (.ok t))=(t,0) from fun _=>rfl,beq_self_eq_true,Bool.not_true,ac,h8,xj,ju,sA,sb hk mr (i:=0) (by decide) (cD fy),sb hk mr (i:=0) (by decide) gc,sb hk mb (i:=0) (by decide) (cD fy),ex,ey,ez]
       rw [xQ,er] at ex
       rw [FK,er] at ey
       rw [xQ,eb] at ez
       obtain ⟨g,l1,a1,q1,q2,q3,rfl⟩:=x_ ex
       obtain ⟨g',l2,a2,q4,_,_,rfl⟩:=x_ ey
       obtain ⟨g'',l3,a3,q5,_,_,rfl⟩:=x_ ez
       rw [show (0:Int)+1=1 from rfl,ST (fl.pl fun _=>pl) hat] at q2
       rw [SW (fa.pl fun _=>pa) hup] at q3
       injection q2 with q2
       injection q3 with q3
       have e1:=Je xp al q1
       have e2:=yh (.inl ⟨rfl,rfl⟩) xp al q4
       have e3:=yh (.inr ⟨rfl,rfl⟩) xp al' q5
       subst q2 q3 e1 e2 e3
       have ok14:OkT (.mk 14 0 ByteArray.empty g [line,a] []):=by
        rw [OkT,bt,bt,bt,bG]
        exact ⟨⟨⟨by decide,by decide⟩,⟨by decide,by decide⟩,by decide,hp,hpl,by simp,by decide⟩,⟨hl.1,ha.1,trivial⟩,trivial⟩
       have fd14:Fd k (ay (.mk 14 0 ByteArray.empty g [line,a] [])):=by
        have d1:=(kC fl.2).1;have d2:=(kC fa.2).1
        exact hk.fd (by rw [ay,bJ,bJ,bJ,bX];omega)
       rw [Q9 _ ok14 _ fd14,ag]
       show e9 k [⟨0,0⟩] [⟨0,0⟩] _=_
       rw [sf hk.fu (by decide),ag]
       show e9 k [⟨0,0⟩] [⟨0,0⟩] _=_
       rw [sf hk.fu (by decide)]
end Go.Proofs.YtapmagaejigpnaaGreatDoor
namespace Go.Proofs.YtapmagaejigpnaaGreatDoor
open Go PI Go.ChangeShapes Go.WideShapes Go.ChangeAt Go.RowKit
set_option linter.unusedVariables false
set_option linter.unusedSimpArgs false
set_option maxRecDepth 100000
theorem zX {k:Nat} (hk:4296016872≤k) {H:Type} {t:Tm} {d:DataW H} (h:QT t d) (hb:Rows.uptoBulk d≤1048576):In k t:=by
 have h1:=h.1
 have h2:=yV t
 exact ⟨h.2 (by omega),by unfold Fd;omega,by omega⟩
theorem NR {k:Nat} (hk:4296016872≤k) {o:Obj} (ho:ae o) {t0:Tm} (h0:In k t0) {t1:List Cl} (h1:ai t1) (g1:t1.length<1073741824) {t2:Tm} (h2:In k t2):
  bQ (LL o) 5 [.agg (cx ET.T t0),dw t1 .none,.agg (cx ET.T t2)] [] (.ret (.bool true) []):=by
 have hF:F3 k:=by unfold F3;omega
 obtain ⟨j,rfl⟩: ∃j,k=j+1:=⟨k-1,by omega⟩
 obtain ⟨out,hout,hx⟩:=Sj (S:=Out UU) o ho (j+1) [.agg (cx ET.T t0),dw t1 .none,.agg (cx ET.T t2)] [] some (.ret (.bool true) []) (by
  cases t0;cases t2
  exact Eq.trans (by kernel_rfl) (Qv hF h0 h1 g1 h2 fun r=>some (Out.ret (U:=UU) (.bool r) [])))
 injection hx with hx
 exact hx▸hout
theorem NQ (H:Type) (enc:TypeId×Value→H) (W:World) (base:Nat) (args:Array Value) (ds gs:List (DataW H)) (before:List MemPlace)
  (hval: ∀ (j:Nat) t v,Tryz.f5.params[j]? =some t→args[j]? =some v→Value.okWide Tryz.prog W .any base t v)
  (hW:DataW.Whole enc Tryz.prog Tryz.f5.params.toList Rows.buildEndsSpec.vars false W args.toList ds gs before) (hL:laidMetH Tryz.prog Rows.buildEndsRow.laid W) (hb:Rows.uptoBulkAll (ds++gs)≤1048576):
  Calls Tryz.prog 5 args W fun e W'=> ∃v,e= .returned v∧Rows.buildEndsSpec.post enc Tryz.prog Tryz.f5 false true false false W args v W':=by
 have hW':=hW
 obtain ⟨p,q,hA0,hV,rfl,hfz,hnd⟩:=hW
 have hA:DataW.TrodAll enc Tryz.prog W 0 (fun _=>true) true Tryz.f5.params.toList args.toList ds p:=hA0
 rw [Tryz.params5] at hA hval
 obtain ⟨v0,vs0,d0,ds0,p0,q0,hargs,rfl,rfl,h0,r0⟩:=trodAll_cons hA
 obtain ⟨v1,vs1,d1,ds1,p1,q1,rfl,rfl,rfl,h1,r1⟩:=trodAll_cons r0
 obtain ⟨v2,vs2,d2,ds2,p2,q2,rfl,rfl,rfl,h2,r2⟩:=trodAll_cons r1
 obtain ⟨rfl,rfl,rfl⟩:=trodAll_nil r2
 obtain rfl:args= #[v0,v1,v2]:=by cases args;simp_all
 obtain ⟨rfl,rfl⟩:=trodVars_none hV
 obtain ⟨o,ho,hh⟩:=Sb hL
 simp only [List.append_nil,Rows.uptoBulkAll,Nat.add_zero] at hb
 obtain ⟨t0,e0,k0⟩:=yl (o:=o) (g:=gB UU 0 fun _=>0) vq h0
 obtain ⟨t1,e1,k1,m1⟩:=Jk (o:=o) (g:=gB UU 0 fun _=>0) vq (hval 1 22 v1 rfl rfl) h1
 obtain ⟨t2,e2,k2⟩:=yl (o:=o) (g:=gB UU 0 fun _=>0) vq h2
 have hk:(4296016872:Nat)≤4296016872:=Nat.le_refl _
 generalize hkk:(4296016872:Nat)=k at hk
 have hok:=NR (k:=k) (by omega) ho (zX (by omega) k0 (by omega)) k1 (by omega) (zX (by omega) k2 (by omega))
 refine (JD hok (LR hh rfl rfl fun j p hj=> ?_)).mono ?_
 ·match j,hj with
  |0,hj=>cases hj;exact e0
  |1,hj=>cases hj;exact e1
  |2,hj=>cases hj;exact e2
  |j+3,hj=>simp at hj
 ·rintro e W' ⟨rfl,hkept⟩
  refine ⟨_,rfl,Pj rfl rfl (fun t ht=> ?_) rfl hW' hkept⟩
  rw [Tryz.params5] at ht
  have ht':t=26∨t=22∨t=26:=by simpa using ht
  rcases ht' with rfl|rfl|rfl<;>exact of_decide_eq_true (by kernel_rfl)
noncomputable def uX (os:Os):World:=
 {World.holding Tryz.prog os ⟨#[],#[],[]⟩ with heap:=(World.holding Tryz.prog os ⟨#[],#[],[]⟩).heap.modify 0 fun
   | .cells _ t frozen=> .cells (Lib.deBruijn32tab.map fun n:Nat=>Value.int .u8 n).toArray t frozen
   |o=>o}
def Gv:Value:= .agg #[.int .i64 0,.int .i64 0,.string ByteArray.empty,.slice none 0 0,.slice none 0 0,.slice none 0 0]
def zeroArgs:Array Value:= #[Gv,.slice none 0 0,Gv]
def Gu {H:Type}:DataW H:= .agg [.lit (.int .i64 0),.lit (.int .i64 0),.lit (.string []),.nil,.nil,.nil]
theorem NN (os:Os):laidMet Tryz.prog Rows.buildEndsRow.laid ((uX os).forCall (fun _ _=>0) ⟨#[],zeroArgs,[]⟩).memory:=
 laidMet_of_run' 8 (by kernel_rfl) (by kernel_rfl)
theorem P6 (os:Os) {H:Type} (enc:TypeId×Value→H): ∃places,DataW.whole enc Tryz.prog ((uX os).forCall (fun _ _=>0) ⟨#[],zeroArgs,[]⟩).memory Tryz.f5.params.toList Rows.buildEndsSpec.vars false zeroArgs.toList 8=some ([Gu,.nil,Gu],[],places):=
 ⟨[],by kernel_rfl⟩
theorem N_ (os:Os) (started:os.Started) (H:Type) (enc:TypeId×Value→H) (F:Stop.Interp):
  ReturnsInHanded {} Tryz.checked os 5 .any ((Rows.OpenSpec.upto Rows.buildEndsSpec).preRow enc Tryz.prog Tryz.f5 Rows.buildEndsUptoRow.domain false Rows.buildEndsUptoRow.laid) (((Rows.OpenSpec.upto Rows.buildEndsSpec).at F).post enc Tryz.prog Tryz.f5 false true false false):=by
 obtain ⟨places,hx⟩:=P6 os enc
 refine returnsInHanded_of_row (C:=Tryz.checked) (s:=Rows.OpenSpec.upto Rows.buildEndsSpec) own started (by kernel_rfl) Tryz.func5
  (witness_row_at (enc:=enc) (C:=Tryz.checked) false (uX os) zeroArgs rfl (by kernel_rfl) (by kernel_rfl) (by kernel_rfl)
   (OpenSpec.preRow_of_cond 8 hx (by kernel_rfl) (fun k hk=>by cases hk;kernel_rfl) (by kernel_rfl) (NN os))) ?_
 intro W base args ds gs before hval hW _ hcond _ hL _ _
 exact NQ H enc W base args ds gs before hval hW hL (of_decide_eq_true (hcond _ rfl))
theorem Ri:Rows.BuildEndsUptoSaid:=
 OpenClaim.holds_of_cond 5 Tryz.f5 rfl rfl rfl rfl rfl rfl rfl ⟨rfl,rfl,rfl,rfl,rfl⟩ rfl rfl rfl rfl rfl (by kernel_rfl) Tryz.func5 (by kernel_rfl)
  (of_decide_eq_true (by kernel_rfl)) (by unfold Func.isWrapper;first|(rw [if_pos (by decide+kernel)];kernel_rfl)|(rw [if_neg (by decide+kernel)];exact ⟨rfl,rfl⟩))
  (fun os started H enc _ F=>by rw [OpenClaim.pre_eq_preRow];exact N_ os started H enc F)
theorem plain (f:FuncId) (fn:Func) (hf:Tryz.pinned.checked.prog.funcNamed "hypercube/hypercubelaw15.BuildEnds" =some f) (hfn:Tryz.pinned.checked.prog.funcs[f]? =some fn):
  true=Tryz.pinned.checked.prog.looks []∧ ∀ (j:Nat) t,fn.params[j]? =some t→Tryz.pinned.checked.prog.wantsStandIn t=false:=by
 obtain rfl:f=5:=Option.some.inj ((show Tryz.prog.funcNamed "hypercube/hypercubelaw15.BuildEnds" =some 5 by kernel_rfl).symm.trans hf)|>.symm
 obtain rfl:fn=Tryz.f5:=(Option.some.inj (Tryz.func5.symm.trans hfn)).symm
 refine ⟨by kernel_rfl,fun j t ht=> ?_⟩
 rw [Tryz.params5] at ht
 have ht':t=26∨t=22∨t=26:=by simpa using Array.mem_of_getElem? ht
 rcases ht' with rfl|rfl|rfl
 ·exact (show Tryz.prog.wantsStandIn 26=false by kernel_rfl)
 ·exact (show Tryz.prog.wantsStandIn 22=false by kernel_rfl)
 ·exact (show Tryz.prog.wantsStandIn 26=false by kernel_rfl)
theorem buildEnds_holds:Rows.BuildEndsUptoCardSaid:=
 Claim7.holds_tied_plain_at .later [] _ _ _ _ Ri (fun _ h=>by cases h) (by kernel_rfl) (fun _ h=>by cases h) buildEndsUpto_row_tie rfl ⟨rfl,rfl⟩ (by kernel_rfl) rfl plain (by kernel_rfl)
#print axioms buildEnds_holds
end Go.Proofs.YtapmagaejigpnaaGreatDoor
