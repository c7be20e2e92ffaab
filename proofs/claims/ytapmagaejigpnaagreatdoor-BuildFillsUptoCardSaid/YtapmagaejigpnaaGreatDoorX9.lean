/- BuildFills answers true at every input of bulk at most 1048576, and leaves its arguments as they were: the second form's card. -/
import Derived.Test.YtapmagaejigpnaaGreatDoorX8
import Derived.KernelRfl
namespace Go.Proofs.YtapmagaejigpnaaGreatDoor
open Go PI
set_option linter.unusedVariables false
set_option linter.unusedSimpArgs false
set_option maxRecDepth 20000
variable {S:Type} {k:Nat}
def iR (sys:List (Br Tm)):Bool:=sys.any fun b=>(b.face.length:Int)==0
theorem RI (hk:Fu k) {l:List (Br Tm)} (hl:l.length<1073741824) (ret:Bool→Option S):t8 k l ret=ret (iR l):=by
 have: ∀ (r p:List (Br Tm)) (m:Nat),l=p++r→r.length<m→k_ k ret l m (p.length:Int)=ret (iR r):=by
  intro r
  induction r with
  |nil=>
   intro p m h hm
   obtain ⟨m,rfl,hm'⟩:=ao hm
   simp only [k_,pb,aM h,ac];rfl
  |cons x r ih=>
   intro p m h hm
   obtain ⟨m,rfl,hm'⟩:=ao hm
   obtain ⟨e1,e2,e3,e4⟩:=aJ h (by omega)
   simp only [k_,pb,e1,ag,e2,Option.bind_some,e3,ih _ m e4 hm',iR,List.any_cons]
   cases ((x.face.length:Int)==0)<;>rfl
 exact this l [] k rfl (by have:4294967296≤k:=hk;omega)
mutual
def cE:Tm→Bool
 | .mk _ _ _ _ ks sys=> !iR sys&&(dz ks&&gX sys)
def dz:List Tm→Bool
 |[]=>true
 |t::l=>cE t&&dz l
def gX:List (Br Tm)→Bool
 |[]=>true
 |b::l=>rt b&&gX l
def rt:Br Tm→Bool
 | .mk _ ks=>dz ks
end
theorem PS (t:Tm):cE t=(!iR t.sys&&(dz t.kids&&gX t.sys)):=by cases t;rw [cE];rfl
theorem PR (b:Br Tm):rt b=dz b.kids:=by cases b;rw [rt]
section
variable {hd:Tm→(Bool→Option S)→Option S} {t:Tm}
theorem Oh (hk:Fu k) (ret:Bool→Option S) (rec1:Int→Option S) {v:Int} {x:Br Tm} (hQ: ∀y∈x.kids,∀g,hd y g=g (cE y)) (hl:x.kids.length<1073741824):
  ∀ (r p:List Tm) (m:Nat),x.kids=p++r→r.length<m→jP hd k ret rec1 t v x m (p.length:Int)=ab (dz r) (rec1 (IntKind.wrap .i64 (v+1))) (ret false):=by
 intro r
 induction r with
 |nil=>
  intro p m h hm
  obtain ⟨m,rfl,hm'⟩:=ao hm
  simp only [jP,pc,aM h,ac,dz,ag]
 |cons y r ih=>
  intro p m h hm
  obtain ⟨m,rfl,hm'⟩:=ao hm
  obtain ⟨e1,e2,e3,e4⟩:=aJ h (by omega)
  simp only [jP,pc,e1,ag,e2,Option.bind_some,a8,hQ y (by rw [h];simp),e3,ih _ m e4 hm',dz]
  cases cE y<;>rfl
theorem Og (hk:Fu k) (ret:Bool→Option S) (hQ: ∀b∈t.sys,∀y∈b.kids,∀g,hd y g=g (cE y)) (ht:OkT t):
  ∀ (r p:List (Br Tm)) (m:Nat),t.sys=p++r→r.length<m→gQ hd k ret t m (p.length:Int)=ret (gX r):=by
 obtain ⟨o1,o2,o3,o4,o5,o6,o7⟩:=ht.no
 intro r
 induction r with
 |nil=>
  intro p m h hm
  obtain ⟨m,rfl,hm'⟩:=ao hm
  simp only [gQ,mj,aM h,ac,gX]
 |cons x r ih=>
  intro p m h hm
  obtain ⟨m,rfl,hm'⟩:=ao hm
  obtain ⟨e1,e2,e3,e4⟩:=aJ h (by omega)
  have hx:x∈t.sys:=by rw [h];simp
  have:=Oh (t:=t) hk ret (gQ hd k ret t m) (v:=(p.length:Int)) (hQ x hx) (ht.bi hx).1.2.2 x.kids [] k rfl (by have:=(ht.bi hx).1.2.2;have:4294967296≤k:=hk;omega)
  simp only [List.length_nil] at this
  simp only [gQ,mj,e1,ag,e2,Option.bind_some]
  refine Eq.trans this ?_
  rw [e3,ih _ m e4 hm',gX,PR]
  cases dz x.kids<;>rfl
theorem Of (hk:Fu k) (ret:Bool→Option S) (hQ: ∀y∈t.kids,∀g,hd y g=g (cE y)) (hQ': ∀b∈t.sys,∀y∈b.kids,∀g,hd y g=g (cE y)) (ht:OkT t):
  ∀ (r p:List Tm) (m:Nat),t.kids=p++r→r.length<m→la hd k ret t m (p.length:Int)=ret (dz r&&gX t.sys):=by
 obtain ⟨o1,o2,o3,o4,o5,o6,o7⟩:=ht.no
 intro r
 have hs:=Og hk ret hQ' ht t.sys [] k rfl (by have:4294967296≤k:=hk;omega)
 induction r with
 |nil=>
  intro p m h hm
  obtain ⟨m,rfl,hm'⟩:=ao hm
  simp only [la,mi,aM h,ac,dz,Bool.true_and]
  exact hs
 |cons y r ih=>
  intro p m h hm
  obtain ⟨m,rfl,hm'⟩:=ao hm
  obtain ⟨e1,e2,e3,e4⟩:=aJ h (by omega)
  simp only [la,mi,e1,ag,e2,Option.bind_some,a8,hQ y (by rw [h];simp),e3,ih _ m e4 hm',dz]
  cases cE y<;>rfl
end
theorem wO (t:Tm):OkT t→ ∀ {k:Nat} (ret:Bool→Option S),Fd k (av t)→dT k t ret=ret (cE t):=by
 induction t using fK with
 |h t ih1 ih2=>
  intro ht k ret hk
  obtain ⟨q,rfl,hq,hf⟩:=hk.pos' (dV t)
  obtain ⟨o1,o2,o3,o4,o5,o6,o7⟩:=ht.no
  have hQ: ∀y∈t.kids,∀ (g:Bool→Option S),dT q y g=g (cE y):=fun y hy g=>ih1 y hy (ht.ki hy) g (hf _ (eu hy))
  have hQ': ∀b∈t.sys,∀y∈b.kids,∀ (g:Bool→Option S),dT q y g=g (cE y):=fun b hb y hy g=>ih2 b hb y hy ((ht.bi hb).2 y hy) g (hf _ (ep hb hy))
  have:=Of hq ret hQ hQ' ht t.kids [] q rfl (by have:4294967296≤q:=hq;omega)
  simp only [List.length_nil] at this
  simp only [dT,xG,am hq,RI hq o7]
  rw [PS]
  cases iR t.sys
  ·exact this
  ·rfl
theorem D5 {f:List Cl} (hf:aj f) (h:cZ f=true):RX true f:=by
 have:=(r_ hf).1 h
 exact ⟨this.1,fun _=>this.2⟩
theorem PQ {vars dims kd n nm r ks sys} (hok:OkT (.mk kd n nm r ks sys)) (h:dM vars dims (.mk kd n nm r ks sys)=true):RX (decide (kd=14)) r∧ ∀b∈sys,RX true b.face:=by
 obtain ⟨o1,o2,o3,o4,o5,o6,o7⟩:=hok.node
 unfold dM at h
 simp only [Bool.and_eq_true,decide_eq_true_eq] at h
 obtain ⟨⟨a1,a2,a3,a4⟩,a5⟩:=h
 have r0:r.length=0→RX (decide (kd=14)) r:=fun h=>by
  have:=List.length_eq_zero_iff.1 h;subst this;exact ⟨gk,fun _ c hc=>by cases hc⟩
 have nosys:da kd=0→ ∀b∈sys,RX true b.face:=fun h=>by
  have:=List.length_eq_zero_iff.1 (a4 h);subst this;exact fun b hb=>by cases hb
 split at a5
 ·rename_i c
  simp only [Bool.and_eq_true,decide_eq_true_eq] at a5
  exact ⟨r0 a5.1,nosys (by subst c;decide)⟩
 split at a5
 ·rename_i c
  simp only [Bool.and_eq_true,decide_eq_true_eq] at a5
  exact ⟨r0 a5.1,nosys (by subst c;decide)⟩
 split at a5
 ·rename_i c
  rw [Bool.and_eq_true] at a5
  exact ⟨⟨(gm o4).1 a5.1,fun h=>by rcases c with rfl|rfl|rfl<;>cases h⟩,nosys (by rcases c with rfl|rfl|rfl<;>decide)⟩
 split at a5
 ·rename_i c
  rw [Bool.and_eq_true] at a5
  subst c
  exact ⟨D5 o4 a5.1,nosys (by decide)⟩
 ·simp only [Bool.and_eq_true,decide_eq_true_eq] at a5
  refine ⟨r0 a5.2,fun b hb=> ?_⟩
  have:=List.all_eq_true.1 a5.1 b hb
  unfold dI at this
  simp only [Bool.and_eq_true] at this
  exact D5 (hok.br hb).1.1 this.2.1
theorem JB {bd pl:Bool} (t:Tm): ∀ {vars dims:Int},OkT t→bn bd vars dims t=true→(pl=true→cE t=true)→dg pl t:=by
 induction t using d_ with
 |h kd n nm r ks sys ih1 ih2=>
  intro vars dims hok h hp
  rw [bn,Bool.and_eq_true,Bool.and_eq_true,Bool.and_eq_true] at h
  obtain ⟨_,a,b,c⟩:=h
  obtain ⟨hr,hb⟩:=PQ hok a
  have hok':=hok
  rw [OkT] at hok'
  obtain ⟨_,ok,os⟩:=hok'
  rw [cE] at hp
  simp only [Bool.and_eq_true,Bool.not_eq_true'] at hp
  have hk: ∀ {l:List Tm} {i:Nat},(∀x∈l,∀ {vars dims:Int},OkT x→bn bd vars dims x=true→(pl=true→cE x=true)→dg pl x)→bm l→cG bd vars dims kd i l=true→(pl=true→dz l=true)→dt pl l:=by
   intro l
   induction l<;>grind [cG,dt,dz,bm]
  have hm: ∀ {l:List Tm},(∀x∈l,∀ {vars dims:Int},OkT x→bn bd vars dims x=true→(pl=true→cE x=true)→dg pl x)→bm l→dS bd vars dims kd l=true→(pl=true→dz l=true)→dt pl l:=by
   intro l
   induction l<;>grind [dS,dt,dz,bm]
  have hs: ∀ {l:List (Br Tm)},(∀b∈l,∀x∈b.kids,∀ {vars dims:Int},OkT x→bn bd vars dims x=true→(pl=true→cE x=true)→dg pl x)→bh l→(∀b∈l,RX true b.face)→c7 bd vars dims kd l=true→(pl=true→iR l=false∧gX l=true)→fe pl l:=by
   intro l
   induction l with
   |nil=>intro _ _ _ _ _;rw [fe];trivial
   |cons b l ih=>
    intro h1 h2 h3 h4 h5
    obtain ⟨f,ks'⟩:=b
    rw [bh] at h2
    rw [hJ] at h2
    rw [c7,mb,Bool.and_eq_true] at h4
    rw [iR,List.any_cons,Bool.or_eq_false_iff,gX,rt,Bool.and_eq_true] at h5
    rw [fe,l_]
    refine ⟨⟨⟨h3 ⟨f,ks'⟩ (by simp),fun e he=> ?_⟩,hm (h1 ⟨f,ks'⟩ (by simp)) h2.1.2 h4.1 fun e=>(h5 e).2.1⟩,ih (fun b hb=>h1 b (by simp [hb])) h2.2 (fun b hb=>h3 b (by simp [hb])) h4.2 fun e=>⟨(h5 e).1.2,(h5 e).2.2⟩⟩
    have h6:=(h5 e).1.1
    subst he
    cases h6
  rw [dg]
  exact ⟨hr,hk ih1 ok b fun e=>(hp e).2.1,hs ih2 os hb c fun e=>⟨(hp e).1,(hp e).2.2⟩⟩
theorem Fm.pl {t:Tm} {pl:Bool} (h:Fm t) (hp:pl=true→cE t=true):dg pl t:=by
 have:=h.2
 unfold cz at this
 split at this
 ·cases this
 split at this
 ·cases this
 split at this
 ·rename_i h3;exact JB t h.1 h3 hp
 ·cases this
end Go.Proofs.YtapmagaejigpnaaGreatDoor
namespace Go.Proofs.YtapmagaejigpnaaGreatDoor
open Go PI
set_option linter.unusedVariables false
set_option linter.unusedSimpArgs false
set_option maxRecDepth 20000
variable {S:Type} {k:Nat}
theorem OI (t:Tm): ∀ {v d:Int} {t':Tm},bj 0 0 v d t= .ok t'→t'=t:=by
 induction t using d_ with
 |h kd n nm r ks sys ih1 ih2=>
  intro v d t' h
  rw [bj] at h
  split at h
  ·cases h
  obtain ⟨r1,e1,h⟩:=aq h
  obtain ⟨ks1,e2,h⟩:=aq h
  obtain ⟨sys1,e3,h⟩:=aq h
  injection h with h;subst h
  have hk: ∀ {l l':List Tm} {i:Nat},(∀x∈l,∀ {v d:Int} {t':Tm},bj 0 0 v d x= .ok t'→t'=x)→dm 0 0 v d kd i l= .ok l'→l'=l:=by
   intro l
   induction l<;>grind [dm,→aq]
  have hm: ∀ {l l':List Tm},(∀x∈l,∀ {v d:Int} {t':Tm},bj 0 0 v d x= .ok t'→t'=x)→dn 0 0 v d kd l= .ok l'→l'=l:=by
   intro l
   induction l<;>grind [dn,→aq]
  have hs: ∀ {l l':List (Br Tm)},(∀b∈l,∀x∈b.kids,∀ {v d:Int} {t':Tm},bj 0 0 v d x= .ok t'→t'=x)→cX 0 0 v d kd l= .ok l'→l'=l:=by
   intro l
   induction l with
   |nil=>grind [cX]
   |cons b l ih=>
    obtain ⟨f,ks'⟩:=b
    intro l' h hl
    rw [cX,jX] at hl
    obtain ⟨b',q1,hl⟩:=aq hl
    obtain ⟨m,q2,hl⟩:=aq hl
    obtain ⟨f',q3,q1⟩:=aq q1
    obtain ⟨k',q4,q1⟩:=aq q1
    have:=hm (h ⟨f,ks'⟩ (by simp)) q4
    have:=ih (fun b hb=>h b (by simp [hb])) q2
    grind [bB]
  have e1':r1=r:=by unfold bB at e1;rw [if_pos (.inl rfl)] at e1;injection e1 with e1;exact e1.symm
  rw [e1',hk ih1 e2,hs ih2 e3,Int.add_zero,ite_self]
theorem S_ {b:Int} {t t':Tm} (h:cQ 0 b t= .ok t'):bj 0 b 0 0 t= .ok t':=by
 unfold cQ at h
 obtain ⟨m,h1,h2⟩:=aq h
 rw [OI t h1] at h2;exact h2
theorem Gt {r:List Cl} {t t':Tm} (hp:dg true t) (h:cQ 0 1 t= .ok t'):ay (aW 0 r false) (aW 0 r true) 0 t'= .ok t:=SV hp (S_ h)
theorem JK {t t1:Tm} (h:gD [⟨3,0⟩] t= .ok t1): ∃m,bj 0 2 0 1 t= .ok m∧ay (aW 0 [⟨6,0⟩] false) (aW 0 [⟨6,0⟩] true) 0 m= .ok t1:=by
 unfold gD at h
 obtain ⟨m,h1,h⟩:=aq h
 unfold eZ at h
 rw [show aP [⟨3,0⟩] 0 1=([⟨6,0⟩],0) from by decide,jc rfl,ak] at h
 exact ⟨m,h1,h⟩
theorem Tx {t t1:Tm} (hp:dg true t) (h:gD [⟨3,0⟩] t= .ok t1):ay (aW 0 [⟨0,0⟩] false) (aW 0 [⟨0,0⟩] true) 1 t1= .ok t:=by
 obtain ⟨m,h1,h2⟩:=JK h
 exact SU hp h1 h2
theorem F6 (t:Tm):eZ 0 [⟨0,0⟩] t=ay (aW 0 [⟨0,0⟩] false) (aW 0 [⟨0,0⟩] true) 0 t:=by
 unfold eZ
 rw [show aP [⟨0,0⟩] 0 1=([⟨0,0⟩],0) from by decide,jc rfl,ak]
theorem F5 (t:Tm):eZ 0 [] t=ay (aW 0 [] false) (aW 0 [] true) 0 t:=by
 unfold eZ
 rw [show cm (aP [] 0 1)= .ok [] from rfl,ak]
theorem ST {t:Tm} (h:Fm t): ∃t',eZ 0 [⟨0,0⟩] t= .ok t':=by
 rw [F6];exact F7 (h.pl (pl:=false) fun h=>by cases h) BF fun n hn=>vf hn
theorem SS {t:Tm} (h:Fm t): ∃t',eZ 0 [] t= .ok t':=by
 rw [F5];exact F7 (h.pl (pl:=false) fun h=>by cases h) OY fun n hn=>rfl
end Go.Proofs.YtapmagaejigpnaaGreatDoor
namespace Go.Proofs.YtapmagaejigpnaaGreatDoor
open Go PI
set_option linter.unusedVariables false
set_option linter.unusedSimpArgs false
set_option maxRecDepth 20000
variable {S:Type} {k:Nat}
theorem Si (t:Tm):az t=1+aE t.kids+aD t.sys:=by cases t;rw [az];rfl
def g8 (most w:Int) (n:Nat):Prop:=1≤w∧w≤2*most+1∧(w≤most→(n:Int)≤w)
def Mo (most:Int):Prop:=0≤most∧most≤1000
section
variable {hd:Tm→Int→(Int→Option S)→Option S} {t:Tm}
theorem ND (hk:Fu k) (ret:Int→Option S) (rec1:Int→Int→Option S) {v most:Int} (hm0:Mo most) {x:Br Tm} (hv:ar t.sys v=some x) (hQ: ∀y∈x.kids,∀n,Mo n→ ∀g,∃w,hd y n g=g w∧g8 n w (az y)) (hl:x.kids.length<1073741824):
  ∀ (r p:List Tm) (m:Nat) (a:Int),x.kids=p++r→r.length<m→1≤a→a≤2*most+1→ ∃w,gS hd k ret rec1 t most v m a (p.length:Int)=rec1 w (IntKind.wrap .i64 (v+1))∧a≤w∧w≤2*most+1∧(w≤most→a+(aE r:Int)≤w):=by
 obtain ⟨hm1,hm2⟩:=hm0
 intro r
 induction r with
 |nil=>
  intro p m a h hm ha ha'
  obtain ⟨m,rfl,hm'⟩:=ao hm
  exact ⟨a,by simp only [gS,ph,hv,Option.bind_some,aM h,ac],Int.le_refl _,ha',fun _=>by rw [aE];simp⟩
 |cons y r ih=>
  intro p m a h hm ha ha'
  obtain ⟨m,rfl,hm'⟩:=ao hm
  obtain ⟨e1,e2,e3,e4⟩:=aJ h (by omega)
  simp only [gS,ph,hv,e1,ag,e2,Option.bind_some,a8,e3]
  by_cases hc:a≤most
  ·rw [decide_eq_true hc,ag,bL (show-9223372036854775808≤most-a by omega) (by omega)]
   obtain ⟨w,hw,w1,w2,w3⟩:=hQ y (by rw [h];simp) (most-a) ⟨by omega,by omega⟩ (fun r8=>gS hd k ret rec1 t most v m (IntKind.wrap .i64 (a+r8)) (((p++[y]).length:Nat):Int))
   rw [hw,bL (show-9223372036854775808≤a+w by omega) (by omega)]
   obtain ⟨u,hu,u1,u2,u3⟩:=ih (p++[y]) m (a+w) e4 hm' (by omega) (by omega)
   exact ⟨u,hu,by omega,u2,fun hle=>by rw [aE];have:=u3 hle;have:=w3 (by omega);push_cast;omega⟩
  ·rw [decide_eq_false hc,ac]
   exact ⟨a,rfl,Int.le_refl _,ha',fun h=>absurd h hc⟩
theorem NC (hk:Fu k) (ret:Int→Option S) {most:Int} (hm0:Mo most) (hQ: ∀b∈t.sys,∀y∈b.kids,∀n,Mo n→ ∀g,∃w,hd y n g=g w∧g8 n w (az y)) (ht:OkT t):
  ∀ (r p:List (Br Tm)) (m:Nat) (a:Int),t.sys=p++r→r.length<m→1≤a→a≤2*most+1→ ∃w,f_ hd k ret t most m a (p.length:Int)=ret w∧a≤w∧w≤2*most+1∧(w≤most→a+(aD r:Int)≤w):=by
 obtain ⟨o1,o2,o3,o4,o5,o6,o7⟩:=ht.no
 have hm1:=hm0.1
 have hm2:=hm0.2
 intro r
 induction r with
 |nil=>
  intro p m a h hm ha ha'
  obtain ⟨m,rfl,hm'⟩:=ao hm
  exact ⟨a,by simp only [f_,mo,aM h,ac],Int.le_refl _,ha',fun _=>by rw [aD];simp⟩
 |cons x r ih=>
  intro p m a h hm ha ha'
  obtain ⟨m,rfl,hm'⟩:=ao hm
  obtain ⟨e1,e2,e3,e4⟩:=aJ h (by omega)
  have hx:x∈t.sys:=by rw [h];simp
  have hb:=(ht.bi hx).1
  simp only [f_,mo,e1,ag,e2,Option.bind_some,e3]
  by_cases hc:a≤most
  ·rw [decide_eq_true hc,ag]
   by_cases hf:((x.face.length:Nat):Int)>most
   ·rw [decide_eq_true hf,ag,bL (show-9223372036854775808≤most+1 by omega) (by omega)]
    exact ⟨_,rfl,by omega,by omega,fun h=>by omega⟩
   ·rw [decide_eq_false hf,ac,bL (show-9223372036854775808≤a+1 by omega) (by omega),bL (show-9223372036854775808≤a+1+((x.face.length:Nat):Int) by omega) (by omega)]
    obtain ⟨w,hw,w1,w2,w3⟩:=ND (t:=t) (most:=most) hk ret (f_ hd k ret t most m) hm0 e2 (hQ x hx) hb.2.2 x.kids [] k (a+1+((x.face.length:Nat):Int)) rfl (by have:4294967296≤k:=hk;omega) (by omega) (by omega)
    have hw:gS hd k ret (f_ hd k ret t most m) t most (p.length:Int) k (a+1+((x.face.length:Nat):Int)) 0=_:=hw
    rw [hw,e3]
    obtain ⟨u,hu,u1,u2,u3⟩:=ih (p++[x]) m w e4 hm' (by omega) w2
    exact ⟨u,hu,by omega,u2,fun hle=>by rw [aD,ke];have:=u3 hle;have:=w3 (by omega);push_cast;omega⟩
  ·rw [decide_eq_false hc,ac]
   exact ⟨a,rfl,Int.le_refl _,ha',fun h=>absurd h hc⟩
theorem NA (hk:Fu k) (ret:Int→Option S) {most:Int} (hm0:Mo most) (hQ: ∀y∈t.kids,∀n,Mo n→ ∀g,∃w,hd y n g=g w∧g8 n w (az y)) (hQ': ∀b∈t.sys,∀y∈b.kids,∀n,Mo n→ ∀g,∃w,hd y n g=g w∧g8 n w (az y)) (ht:OkT t):
  ∀ (r p:List Tm) (m:Nat) (a:Int),t.kids=p++r→r.length<m→1≤a→a≤2*most+1→ ∃w,jS hd k ret t most m a (p.length:Int)=ret w∧a≤w∧w≤2*most+1∧(w≤most→a+(aE r:Int)+(aD t.sys:Int)≤w):=by
 obtain ⟨o1,o2,o3,o4,o5,o6,o7⟩:=ht.no
 have hm1:=hm0.1
 have hm2:=hm0.2
 intro r
 have hs:=fun a=>NC (most:=most) hk ret hm0 hQ' ht t.sys [] k a rfl (by have:4294967296≤k:=hk;omega)
 induction r with
 |nil=>
  intro p m a h hm ha ha'
  obtain ⟨m,rfl,hm'⟩:=ao hm
  simp only [jS,mn,aM h,ac]
  obtain ⟨w,hw,w1,w2,w3⟩:=hs a ha ha'
  exact ⟨w,hw,w1,w2,fun hle=>by rw [aE];have:=w3 hle;simp;omega⟩
 |cons y r ih=>
  intro p m a h hm ha ha'
  obtain ⟨m,rfl,hm'⟩:=ao hm
  obtain ⟨e1,e2,e3,e4⟩:=aJ h (by omega)
  simp only [jS,mn,e1,ag,e2,Option.bind_some,a8,e3]
  by_cases hc:a≤most
  ·rw [decide_eq_true hc,ag,bL (show-9223372036854775808≤most-a by omega) (by omega)]
   obtain ⟨w,hw,w1,w2,w3⟩:=hQ y (by rw [h];simp) (most-a) ⟨by omega,by omega⟩ (fun r2=>jS hd k ret t most m (IntKind.wrap .i64 (a+r2)) (((p++[y]).length:Nat):Int))
   rw [hw,bL (show-9223372036854775808≤a+w by omega) (by omega)]
   obtain ⟨u,hu,u1,u2,u3⟩:=ih (p++[y]) m (a+w) e4 hm' (by omega) (by omega)
   exact ⟨u,hu,by omega,u2,fun hle=>by rw [aE];have:=u3 hle;have:=w3 (by omega);push_cast;omega⟩
  ·rw [decide_eq_false hc,ac]
   obtain ⟨w,hw,w1,w2,w3⟩:=hs a ha ha'
   exact ⟨w,hw,w1,w2,fun hle=>by omega⟩
end
theorem wP (t:Tm):OkT t→ ∀ {k:Nat} (most:Int),Mo most→ ∀ (ret:Int→Option S),Fd k (av t)→ ∃w,dj k t most ret=ret w∧g8 most w (az t):=by
 induction t using fK with
 |h t ih1 ih2=>
  intro ht k most hm0 ret hk
  have hm1:=hm0.1
  have hm2:=hm0.2
  obtain ⟨q,rfl,hq,hf⟩:=hk.pos' (dV t)
  obtain ⟨o1,o2,o3,o4,o5,o6,o7⟩:=ht.no
  have hQ: ∀y∈t.kids,∀n,Mo n→ ∀ (g:Int→Option S),∃w,dj q y n g=g w∧g8 n w (az y):=fun y hy n hn g=>ih1 y hy (ht.ki hy) n hn g (hf _ (eu hy))
  have hQ': ∀b∈t.sys,∀y∈b.kids,∀n,Mo n→ ∀ (g:Int→Option S),∃w,dj q y n g=g w∧g8 n w (az y):=fun b hb y hy n hn g=>ih2 b hb y hy ((ht.bi hb).2 y hy) n hn g (hf _ (ep hb hy))
  simp only [dj,xN]
  have out: ∃w,ret (IntKind.wrap .i64 (most+1))=ret w∧g8 most w (az t):=⟨most+1,by rw [bL (show-9223372036854775808≤most+1 by omega) (by omega)],by omega,by omega,fun h=>by omega⟩
  by_cases hr:((t.r.length:Nat):Int)>most
  ·rw [decide_eq_true hr,ag];exact out
  ·rw [decide_eq_false hr,ac]
   by_cases hn:((t.name.size:Nat):Int)>most
   ·rw [decide_eq_true hn,ag];exact out
   ·rw [decide_eq_false hn,ac,bL (show-9223372036854775808≤1+((t.r.length:Nat):Int) by omega) (by omega),bL (show-9223372036854775808≤1+((t.r.length:Nat):Int)+((t.name.size:Nat):Int) by omega) (by omega)]
    obtain ⟨w,hw,w1,w2,w3⟩:=NA hq ret hm0 hQ hQ' ht t.kids [] q (1+((t.r.length:Nat):Int)+((t.name.size:Nat):Int)) rfl (by have:4294967296≤q:=hq;omega) (by omega) (by omega)
    exact ⟨w,hw,by omega,w2,fun hle=>by rw [Si];have:=w3 hle;push_cast;omega⟩
theorem Rz (hk:Fu k) {a b:Tm} {sys:List (Br Tm)} (ha:OkT a) (ha':Fd k (av a)) (hb:OkT b) (hb':Fd k (av b)) (hs:OkT (.mk 0 0 ByteArray.empty [] [] sys)) (hs':Fd k (av (.mk 0 0 ByteArray.empty [] [] sys))) (ret:Bool→Option S):
  ∃c,mT k a b sys ret=ret c∧(c=false→az a≤150∧az b≤150∧az (.mk 0 0 ByteArray.empty [] [] sys)≤150):=by
 simp only [mT,Fz,a8]
 have hm:Mo 150:=⟨by omega,by omega⟩
 obtain ⟨w,hw,w1,w2,w3⟩:=wP a ha 150 hm (fun r1=>ab (decide (r1>150)) (ret true) (dj k b 150 fun r2=>ab (decide (r2>150)) (ret true) (dj k (.mk 0 0 ByteArray.empty [] [] sys) 150 fun r3=>ret (decide (r3>150))))) ha'
 rw [hw]
 by_cases hc:w>150
 ·rw [decide_eq_true hc];exact ⟨true,rfl,fun h=>by cases h⟩
 ·rw [decide_eq_false hc,ac]
  obtain ⟨u,hu,u1,u2,u3⟩:=wP b hb 150 hm (fun r2=>ab (decide (r2>150)) (ret true) (dj k (.mk 0 0 ByteArray.empty [] [] sys) 150 fun r3=>ret (decide (r3>150)))) hb'
  rw [hu]
  by_cases hd:u>150
  ·rw [decide_eq_true hd];exact ⟨true,rfl,fun h=>by cases h⟩
  ·rw [decide_eq_false hd,ac]
   obtain ⟨z,hz,z1,z2,z3⟩:=wP _ hs 150 hm (fun r3=>ret (decide (r3>150))) hs'
   rw [hz]
   refine ⟨_,rfl,fun h=> ?_⟩
   have h: ¬z>150:=of_decide_eq_false h
   have:=w3 (by omega);have:=u3 (by omega);have:=z3 (by omega)
   omega
end Go.Proofs.YtapmagaejigpnaaGreatDoor
namespace Go.Proofs.YtapmagaejigpnaaGreatDoor
open Go PI
set_option linter.unusedVariables false
set_option linter.unusedSimpArgs false
set_option maxRecDepth 20000
variable {S:Type} {k:Nat}
section
variable {hd:Tm→(Tm→Option S)→Option S}
end
theorem PP {v d d':Int} (h:24≤d) (h':24≤d') (t:Tm):dM v d t=dM v d' t:=by
 have hb: ∀kd,dI kd d=dI kd d':=fun kd=>by funext b;unfold dI;rw [jY h,jY h']
 cases t
 rw [dM,dM,hb,jY h,jY h']
theorem Jz (t:Tm): ∀ {v d d':Int},24≤d→24≤d'→bn false v d t=bn false v d' t:=by
 induction t using fK with
 |h t ih1 ih2=>
  intro v d d' h h'
  rw [tr,tr,PP h h']
  have hK: ∀ (l:List Tm) (i:Nat),(∀x∈l,x∈t.kids)→cG false v d t.kind i l=cG false v d' t.kind i l:=by
   intro l
   induction l with
   |nil=>intro i _;rw [cG,cG]
   |cons x l ih=>
    intro i hl
    rw [cG,cG,ih _ fun y hy=>hl y (by simp [hy]),ih1 x (hl x (by simp)) (d:=d+bU t.kind i) (d':=d'+bU t.kind i) (by have:=fN t.kind i;omega) (by have:=fN t.kind i;omega)]
  rw [hK _ _ fun x hx=>hx,oG,oG]
  have hS:(t.sys.all fun b=>b.kids.all (bn false v (d+aw t.kind)))=t.sys.all fun b=>b.kids.all (bn false v (d'+aw t.kind)):=by
   rw [Bool.eq_iff_iff,List.all_eq_true,List.all_eq_true]
   have he: ∀b∈t.sys,∀x∈b.kids,bn false v (d+aw t.kind) x=bn false v (d'+aw t.kind) x:=fun b hb x hx=>ih2 b hb x hx (by have:=d4 t.kind;omega) (by have:=d4 t.kind;omega)
   constructor
   ·intro hh b hb
    rw [List.all_eq_true]
    intro x hx
    rw [←he b hb x hx]
    exact List.all_eq_true.1 (hh b hb) x hx
   ·intro hh b hb
    rw [List.all_eq_true]
    intro x hx
    rw [he b hb x hx]
    exact List.all_eq_true.1 (hh b hb) x hx
  rw [hS]
  simp
end Go.Proofs.YtapmagaejigpnaaGreatDoor
namespace Go.Proofs.YtapmagaejigpnaaGreatDoor
open Go PI
set_option linter.unusedVariables false
set_option linter.unusedSimpArgs false
set_option maxRecDepth 20000
variable {S:Type} {k:Nat}
def yc (kd:Int) (l:List Tm):Tm:= .mk kd 0 ByteArray.empty [] l []
def jd (c a b:Int) (t:Tm):Tm×Int:=if c=0 then tE (cQ a b t) else (aK,c)
def SY (p:Tm×Int):Except Int Tm:=if p.2=0 then .ok p.1 else .error p.2
theorem oy {c a b:Int} {t:Tm} (h:c≠0):jd c a b t=(aK,c):=if_neg h
theorem Ta {c a b:Int} {t:Tm} (h:(jd c a b t).2=0):c=0:=by
 by_cases hc:c=0
 ·exact hc
 ·rw [oy hc] at h;exact h
theorem Gf (a b:Int) (t:Tm):jd 0 a b t=tE (cQ a b t):=rfl
theorem Eo (hk:F3 k) {c:Int} {t:Tm} (h:c=0→Fm t) {a b:Int} (ha:0≤a∧a≤1000000) (hb:0≤b∧b<9223372036854775808) (ret:Tm×Int→Option S):ej k t a b c ret=ret (jd c a b t):=by
 by_cases hc:c=0
 ·subst hc;exact Ep hk (h rfl) ha hb ret
 ·rw [wQ hc hk,oy hc]
theorem Rp (hk:F3 k) {t:Tm} {c:Int} (h:c=0→In k t) (ret:Tm×Int→Option S):(ei k t c fun r=>ret (r.1,r.2.1))=ret (tE (gI (SY (t,c)))):=by
 by_cases hc:c=0
 ·subst hc
  rw [Rq hk (h rfl)]
  show _=ret (tE (gI (.ok t)))
  unfold gI
  rw [ak]
  by_cases h0:cz t=0
  ·rw [if_pos h0,if_pos h0];rfl
  ·rw [if_neg h0,if_neg h0];rfl
 ·rw [sf hc hk]
  show _=ret (tE (gI (if c=0 then _ else _)))
  rw [if_neg hc];rfl
theorem Pg {kd:Int} (hkd:0≤kd∧kd≤28) {l:List Tm} (hl:l.length<10) (h: ∀x∈l,OkT x):OkT (yc kd l):=by
 unfold yc
 rw [OkT,okK_iff,bh]
 exact ⟨⟨by unfold aI;omega,by unfold aI;omega,by show 0<_;omega,fun c hc=>(by cases hc),by simp,by omega,by simp⟩,h,trivial⟩
def Fd2 (n m:Nat) (t:Tm):Prop:=OkT t∧bn false (-1) 24 t=true∧av t≤n∧az t≤m
theorem Fm.f2 {t:Tm} (h:Fm t):Fd2 200 20000 t:=⟨h.1,(fZ h.2).2.2,(fZ h.2).1,(fZ h.2).2.1⟩
theorem Fd2.mono {n m n' m':Nat} {t:Tm} (h:Fd2 n m t) (hn:n≤n') (hm:m≤m'):Fd2 n' m' t:=⟨h.1,h.2.1,by have:=h.2.2.1;omega,by have:=h.2.2.2;omega⟩
end Go.Proofs.YtapmagaejigpnaaGreatDoor
namespace Go.Proofs.YtapmagaejigpnaaGreatDoor
open Go PI
set_option linter.unusedVariables false
set_option linter.unusedSimpArgs false
set_option maxRecDepth 20000
variable {S:Type} {k:Nat}
def lQ (l:List Tm) (x:Except Int Tm):Except Int Tm:=if d9 l=0 then gI x else .error (d9 l)
end Go.Proofs.YtapmagaejigpnaaGreatDoor
namespace Go.Proofs.YtapmagaejigpnaaGreatDoor
open Go PI
set_option linter.unusedVariables false
set_option linter.unusedSimpArgs false
set_option maxRecDepth 20000
variable {S:Type} {k:Nat}
structure Gd (x:Except Int Tm):Prop where
 en: ∀e,x= .error e→0<e∧e≤1000
 kd: ∀t,x= .ok t→0≤t.kind
end Go.Proofs.YtapmagaejigpnaaGreatDoor
namespace Go.Proofs.YtapmagaejigpnaaGreatDoor
open Go PI
set_option linter.unusedVariables false
set_option linter.unusedSimpArgs false
set_option maxRecDepth 20000
variable {S:Type} {k:Nat}
section
variable {hd:Tm→(Tm→Option S)→Option S} {t:Tm}
end
def bK (sys:List (Br Tm)):Tm:= .mk 15 0 ByteArray.empty [] [.mk 3 0 ByteArray.empty [] [] [],.mk 3 0 ByteArray.empty [] [] []] sys
theorem RT (hk:Fu k) (sys:List (Br Tm)) (ret:Int×Int×ByteArray×List Tm×List (Br Tm)→Option S):pF k sys ret=ret (15,0,ByteArray.empty,[.mk 3 0 ByteArray.empty [] [] [],.mk 3 0 ByteArray.empty [] [] []],sys):=by
 simp only [pF,ES,am hk,cK,xb]
end Go.Proofs.YtapmagaejigpnaaGreatDoor
namespace Go.Proofs.YtapmagaejigpnaaGreatDoor
open Go PI
set_option linter.unusedVariables false
set_option linter.unusedSimpArgs false
set_option maxRecDepth 20000
variable {S:Type} {k:Nat}
def dy (b:Br Tm):Tm:=b.kids.headD aK
structure SyF (sys:List (Br Tm)):Prop where
 kid: ∀b∈sys,b.kids=[dy b]∧Fm (dy b)∧aj b.face∧b.face.length<1073741824
 len:sys.length≤20000
 siz:aD sys≤20000
theorem Gv {sys:List (Br Tm)} (h:Fm (bK sys)):SyF sys:=by
 obtain ⟨h1,h2,h3⟩:=fZ h.2
 have hz:az (bK sys)=3+aD sys:=by unfold bK;rw [az,aE,aE,aE,az,aE,aD]
 have hd:bu sys+1≤av (bK sys):=by unfold bK;rw [av];omega
 unfold bK at h3
 rw [bn] at h3
 simp only [Bool.and_eq_true] at h3
 obtain ⟨_,ho,_,hS⟩:=h3
 have ho:(sys.all (dI 15 24)&&decide (([]:List Cl).length=0))=true:=by
  rw [dM] at ho
  simp only [Bool.and_eq_true] at ho
  exact (Bool.and_eq_true _ _).symm▸ho.2
 simp only [Bool.and_eq_true] at ho
 have hb:=List.all_eq_true.1 ho.1
 rw [oG,List.all_eq_true] at hS
 have hk: ∀b∈sys,b.kids=[dy b]∧Fm (dy b)∧aj b.face∧b.face.length<1073741824:=by
  intro b hb'
  have h1':=hb b hb'
  unfold dI at h1'
  simp only [Bool.and_eq_true,decide_eq_true_eq] at h1'
  have hl:b.kids.length=1:=by have:=h1'.1;rw [show da 15=1 from rfl] at this;omega
  have hok:=h.1.br (by exact hb':b∈sys)
  match hb2:b.kids,hl with
  |[x],_=>
   have hx:dy b=x:=by unfold dy;rw [hb2];rfl
   have hmem:x∈b.kids:=by rw [hb2];simp
   rw [hx]
   refine ⟨rfl,⟨hok.2 x hmem,zW ?_ ?_ ?_⟩,hok.1.1,hok.1.2.1⟩
   ·have:=uk hmem;have:=zd hb';omega
   ·have:=wZ hmem;have:=EE hb';omega
   ·have:=List.all_eq_true.1 (hS b hb') x hmem
    rw [←this]
    exact Jz x (by omega) (by decide)
 have hlen: ∀l:List (Br Tm),(∀b∈l,b.kids=[dy b])→l.length≤aD l:=by
  intro l
  induction l with
  |nil=>intro _;simp
  |cons b l ih=>
   intro hl
   rw [aD,ke,hl b (by simp),aE,aE,List.length_cons]
   have:=ih fun b hb=>hl b (by simp [hb])
   have:=w5 (dy b)
   omega
 exact ⟨hk,by have:=hlen sys fun b hb=>(hk b hb).1;omega,by omega⟩
end Go.Proofs.YtapmagaejigpnaaGreatDoor
namespace Go.Proofs.YtapmagaejigpnaaGreatDoor
open Go PI
set_option linter.unusedVariables false
set_option linter.unusedSimpArgs false
set_option maxRecDepth 20000
variable {S:Type} {k:Nat}
def fj:List (Br Tm)→Except Int (List (Br Tm))
 |[]=> .ok []
 |b::r=>bE (cm (aP b.face 0 1)) fun f=>bE (gD [⟨3,0⟩] (dy b)) fun u=>bE (fj r) fun l=> .ok (.mk f [u]::l)
def fW (t a:Tm) (sys:List (Br Tm)):Except Int Tm:=bE (cQ 0 1 t) fun t'=>bE (cQ 0 1 a) fun a'=>bE (fj sys) fun l=>bE (cQ 0 2 a) fun a2=> .ok (.mk 15 0 ByteArray.empty [] [t',a'] (l++[.mk [⟨0,1⟩] [a2]]))
theorem L3: ∀ {r:List (Br Tm)} {e:Int},fj r= .error e→0<e∧e≤1000:=by
 intro r
 induction r with
 |nil=>intro e h;cases h
 |cons b r ih=>
  intro e h
  rcases ba h with h|⟨_,_,h⟩
  ·exact SZ (rd _ _ _) h
  rcases ba h with h|⟨_,_,h⟩
  ·exact yA h
  rcases ba h with h|⟨_,_,h⟩
  ·exact ih h
  ·cases h
theorem L0 {t a:Tm} {sys:List (Br Tm)} {e:Int} (h:fW t a sys= .error e):0<e∧e≤1000:=by
 rcases ba h with h|⟨_,_,h⟩
 ·exact lV h
 rcases ba h with h|⟨_,_,h⟩
 ·exact lV h
 rcases ba h with h|⟨_,_,h⟩
 ·exact L3 h
 rcases ba h with h|⟨_,_,h⟩
 ·exact lV h
 ·cases h
theorem L4: ∀ {r l:List (Br Tm)},(∀b∈r,b.kids=[dy b]∧Fm (dy b)∧aj b.face∧b.face.length<1073741824)→fj r= .ok l→bh l∧bu l≤201∧aD l≤r.length*20001∧l.length=r.length:=by
 intro r
 induction r with
 |nil=>
  intro l _ h
  injection h with h;subst h
  rw [bh,bu,aD]
  exact ⟨trivial,by omega,by omega,rfl⟩
 |cons b r ih=>
  intro l hr h
  obtain ⟨f,h0,h⟩:=aq h
  obtain ⟨u,h1,h⟩:=aq h
  obtain ⟨l',h2,h⟩:=aq h
  injection h with h;subst h
  obtain ⟨b1,b2,b3,b4⟩:=hr b (by simp)
  obtain ⟨i1,i2,i3,i4⟩:=ih (fun b hb=>hr b (by simp [hb])) h2
  obtain ⟨a1,a2,a3,a4⟩:=JJ b2 h1
  obtain ⟨g1,rfl⟩:=fL h0
  have hf:=gV g1
  have:=hf.len
  refine ⟨?_, ?_, ?_,by simp [i4]⟩
  ·rw [bh,hJ,bm,bm]
   exact ⟨⟨⟨hf.2,by omega,by simp⟩,a1,trivial⟩,i1⟩
  ·rw [bu,jE,bo,bo];omega
  ·rw [aD,gq,aE,aE,List.length_cons,Nat.add_mul];omega
theorem Pd {l l':List (Br Tm)} (h:bh l) (h':bh l'):bh (l++l'):=by
 rw [okS_iff] at*
 intro b hb
 rcases List.mem_append.1 hb with hb|hb
 ·exact h b hb
 ·exact h' b hb
theorem Kk (l l':List (Br Tm)):bu (l++l')=max (bu l) (bu l'):=by
 induction l with
 |nil=>rw [List.nil_append,bu];omega
 |cons b l ih=>rw [List.cons_append,bu,bu,ih];omega
theorem Sh (l l':List (Br Tm)):aD (l++l')=aD l+aD l':=by
 induction l with
 |nil=>rw [List.nil_append,aD];omega
 |cons b l ih=>rw [List.cons_append,aD,aD,ih];omega
theorem Pe:aj [⟨0,1⟩]:=fun c hc=>by simp at hc;subst hc;exact Pf
theorem zP (hk:F3 k) {t a:Tm} {sys:List (Br Tm)} (ht:Fm t) (ha:Fm a) (hs:SyF sys) {x:Tm} (h:fW t a sys= .ok x):In k x∧0≤x.kind:=by
 obtain ⟨t',h1,h⟩:=aq h
 obtain ⟨a',h2,h⟩:=aq h
 obtain ⟨l,h3,h⟩:=aq h
 obtain ⟨a2,h4,h⟩:=aq h
 injection h with h;subst h
 have f1:=yk (by omega) ht h1
 have f2:=yk (by omega) ha h2
 have f4:=yk (by omega) ha h4
 obtain ⟨i1,i2,i3,i4⟩:=L4 hs.kid h3
 have:=hs.len;have:=f1.dep;have:=f2.dep;have:=f4.dep;have:=f1.siz;have:=f2.siz;have:=f4.siz
 have hm:sys.length*20001≤20000*20001:=Nat.mul_le_mul_right _ hs.len
 refine ⟨⟨?_,hk.fd ?_, ?_⟩,(by decide:(0:Int)≤15)⟩
 ·rw [OkT,bm,bm,bm]
  refine ⟨⟨by unfold aI;omega,by unfold aI;omega,by show 0<_;omega,fun c hc=>(by cases hc),by simp,by simp,by simp;omega⟩,⟨f1.ok,f2.ok,trivial⟩,Pd i1 ?_⟩
  rw [bh,bh,hJ,bm,bm]
  exact ⟨⟨⟨Pe,by simp,by simp⟩,f4.ok,trivial⟩,trivial⟩
 ·rw [av,bo,bo,bo,Kk,bu,bu,jE,bo,bo];omega
 ·rw [az,aE,aE,aE,Sh,aD,aD,gq,aE,aE];omega
theorem ni (hk:F3 k) (ret:Tm×Int→Option S) {a:Tm} {q:Int×Int×ByteArray×List Tm} {sys:List (Br Tm)} {c:Int} (hc:c≠0) (hsl:sys.length<1073741824):
  ∀ (r p acc:List (Br Tm)) (m:Nat),sys=p++r→0<m→acc.length<1073741824→eT k ret a q sys m c acc (p.length:Int)=ret (aK,c):=by
 intro r p acc m h hm ha
 obtain ⟨m,rfl⟩: ∃j,m=j+1:=⟨m-1,by omega⟩
 have hr: ∀ (b:Br Tm) (f:Unit→Option S),Option.bind (aR 1099511627776 acc.length [b].length) f=f ():=fun b f=>bM (by simp;omega) f
 cases r with
 |nil=>simp only [eT,km,aM h,ac,am hk.fu,wQ hc hk,sf hc hk,a8,hr]
 |cons x r=>
  obtain ⟨e1,e2,e3,e4⟩:=aJ h (by omega)
  simp only [eT,km,e1,ag,e2,Option.bind_some,am hk.fu,cS,gr,bP,decide_eq_false hc,Bool.not_false,wQ hc hk,sf hc hk,a8,hr]
theorem NS (hk:F3 k) (ret:Tm×Int→Option S) {a:Tm} (ha:Fm a) {q:Int×Int×ByteArray×List Tm} {sys:List (Br Tm)} (hsl:sys.length<1073741824) (hs: ∀b∈sys,b.kids=[dy b]∧Fm (dy b)∧aj b.face∧b.face.length<1073741824):
  ∀ (r p acc:List (Br Tm)) (m:Nat),sys=p++r→r.length<m→acc.length+r.length<1073741823→
   eT k ret a q sys m 0 acc (p.length:Int)=eE (bE (fj r) fun l=>bE (cQ 0 2 a) fun a2=> .ok (l++[.mk [⟨0,1⟩] [a2]])) (fun l=>ei k (.mk q.1 q.2.1 q.2.2.1 [] q.2.2.2 (acc++l)) 0 fun z=>ret (z.1,z.2.1)) fun e=>ret (aK,e):=by
 intro r
 induction r with
 |nil=>
  intro p acc m h hm hacc
  obtain ⟨m,rfl,hm'⟩:=ao hm
  have hr: ∀ (b:Br Tm) (f:Unit→Option S),Option.bind (aR 1099511627776 acc.length [b].length) f=f ():=fun b f=>bM (by simp at hacc ⊢;omega) f
  have hup: ∀g:Tm×Int→Option S,ej k a 0 2 0 g=g (tE (cQ 0 2 a)):=fun g=>Ep hk ha (by omega) (by omega) g
  simp only [eT,km,aM h,ac,am hk.fu,a8,hup,hr,fj,ak]
  cases hu:cQ 0 2 a with
  |error e=>
   have he:=lV hu
   show ei k _ e _=ret (aK,e)
   rw [sf (show e≠0 by omega) hk]
  |ok a2=>rfl
 |cons x r ih=>
  intro p acc m h hm hacc
  obtain ⟨m,rfl,hm'⟩:=ao hm
  obtain ⟨e1,e2,e3,e4⟩:=aJ h (by omega)
  obtain ⟨x1,x2,x3,x4⟩:=hs x (by rw [h];simp)
  have hg:ar x.kids 0=some (dy x):=by rw [x1];rfl
  have hr: ∀ (b:Br Tm) (f:Unit→Option S),Option.bind (aR 1099511627776 acc.length [b].length) f=f ():=fun b f=>bM (by simp at hacc ⊢;omega) f
  have hrow: ∀g:List Cl×Int→Option S,jx k x.face 0 g=g (aP x.face 0 1):=fun g=>RP hk x3 x4 g
  simp only [eT,km,e1,ag,e2,Option.bind_some,am hk.fu,cS,gr,bP,show decide ((0:Int)=0)=true from rfl,Bool.not_true,ac,a8,hrow,hg,hr]
  rw [fj,aY,aY]
  by_cases h1:(aP x.face 0 1).2=0
  ·rw [jc h1,bp,h1,Rf hk x2 QP,aY]
   cases h2:gD [⟨3,0⟩] (dy x) with
   |error e=>
    have he:=yA h2
    rw [e3]
    exact ni hk ret (show e≠0 by omega) hsl r (p++[x]) _ m e4 (by simp at hm';omega) (by simp at hacc ⊢;omega)
   |ok u=>
    rw [bp,e3]
    refine (ih (p++[x]) (acc++[.mk (aP x.face 0 1).1 [u]]) m e4 hm' (by simp at hacc ⊢;omega)).trans ?_
    rw [aY,aY]
    refine bQ (fun l _=> ?_) fun _ _=>rfl
    rw [aY,bp,aY]
    refine bQ (fun a2 _=> ?_) fun _ _=>rfl
    rw [bp,bp,List.append_assoc];rfl
  ·rw [lS h1,Rg h1 hk,e3]
   exact ni hk ret h1 hsl r (p++[x]) _ m e4 (by simp at hm';omega) (by simp at hacc ⊢;omega)
theorem Q9 (hk:F3 k) {t a:Tm} {sys:List (Br Tm)} (ht:In k t) (ha:In k a) (hs:In k (bK sys)) (ret:Tm×Int→Option S):mI k t a sys ret=ret (tE (lQ [t,a,bK sys] (fW t a sys))):=by
 have hin: ∀x∈[t,a,bK sys],In k x:=fun x hx=>by
  simp at hx
  rcases hx with rfl|rfl|rfl<;>assumption
 have hfm:d9 [t,a,bK sys]=0→ ∀x∈[t,a,bK sys],Fm x:=fun h=>EI (fun x hx=>(hin x hx).1) h
 have hsl:sys.length<1073741824:=hs.1.node.2.2.2.2.2.2
 have hb: ∀g:Int→Option S,kr k [t,a,.mk 15 0 ByteArray.empty [] [.mk 3 0 ByteArray.empty [] [] [],.mk 3 0 ByteArray.empty [] [] []] sys] g=g (d9 [t,a,bK sys]):=fun g=>Rh hk hin (by simp) g
 simp only [mI,w7,am hk.fu,a8,RT hk.fu,hb,cK,xb,Eo hk (fun h=>hfm h t (by simp)) (show (0:Int)≤0∧(0:Int)≤1000000 by omega) (show (0:Int)≤1∧(1:Int)<9223372036854775808 by omega),
  Eo hk (fun h=>hfm (Ta h) a (by simp)) (show (0:Int)≤0∧(0:Int)≤1000000 by omega) (show (0:Int)≤1∧(1:Int)<9223372036854775808 by omega)]
 unfold lQ
 have hfuel:sys.length<k:=by have:4294968296≤k:=hk;omega
 by_cases h0:d9 [t,a,bK sys]=0
 ·have fl:=hfm h0 t (by simp)
  have fa:=hfm h0 a (by simp)
  have sy:=Gv (hfm h0 (bK sys) (by simp))
  have hlen:=sy.len
  rw [h0,if_pos rfl,Gf]
  have hret:ret (tE (gI (fW t a sys)))=eE (fW t a sys) (fun t=>ei k t 0 fun z=>ret (z.1,z.2.1)) fun e=>ret (aK,e):=by
   unfold gI
   rw [gj _ ret,aY]
   refine bQ (fun t ht=> ?_) fun _ _=>rfl
   rw [←gj _ ret]
   exact ((Rp hk (t:=t) (c:=0) (fun _=>(zP hk fl fa sy ht).1) ret).trans rfl).symm
  rw [hret]
  unfold fW
  rw [aY]
  cases h1:cQ 0 1 t with
  |error e=>
   have he:=lV h1
   show eT k ret a _ sys k (jd e 0 1 a).2 [] 0=ret (aK,e)
   rw [oy (show e≠0 by omega)]
   exact ni hk ret (show e≠0 by omega) hsl sys [] [] k rfl (by omega) (by simp)
  |ok t'=>
   rw [bp,aY]
   show eT k ret a (15,0,ByteArray.empty,[t',(jd 0 0 1 a).1]) sys k (jd 0 0 1 a).2 [] 0=_
   rw [Gf]
   cases h2:cQ 0 1 a with
   |error e=>
    have he:=lV h2
    exact ni hk ret (show e≠0 by omega) hsl sys [] [] k rfl (by omega) (by simp)
   |ok a'=>
    rw [bp]
    refine (NS hk ret fa hsl sy.kid sys [] [] k rfl hfuel (by simp;omega)).trans ?_
    rw [aY,aY]
    refine bQ (fun l _=> ?_) fun _ _=>rfl
    rw [aY,aY]
    exact bQ (fun l _=>rfl) fun _ _=>rfl
 ·rw [if_neg h0,oy h0]
  show eT k ret a _ sys k (jd (d9 [t,a,bK sys]) 0 1 a).2 [] 0=_
  rw [oy h0]
  exact ni hk ret h0 hsl sys [] [] k rfl (by omega) (by simp)
theorem TC (hk:F3 k) {sys:List (Br Tm)} (h:In k (.mk 0 0 ByteArray.empty [] [] sys)) (hz:aD sys<1000000000) (hd:Fd k (bu sys+2)):In k (bK sys):=by
 obtain ⟨h1,h2,h3⟩:=h
 unfold bK
 refine ⟨?_, ?_, ?_⟩
 ·rw [OkT] at h1 ⊢
  refine ⟨⟨by unfold aI;omega,h1.1.2.1,h1.1.2.2.1,h1.1.2.2.2.1,h1.1.2.2.2.2.1,by simp,h1.1.2.2.2.2.2.2⟩, ?_,h1.2.2⟩
  rw [okK_iff]
  intro x hx
  have hx:x=yc 3 []:=by simp at hx;exact hx
  subst hx
  exact Pg (by omega) (by simp) fun x hx=>by cases hx
 ·rw [av,bo,bo,bo,av,bo,bu]
  unfold Fd at*;omega
 ·rw [az,aE,aE,aE,az,aE,aD];omega
end Go.Proofs.YtapmagaejigpnaaGreatDoor
namespace Go.Proofs.YtapmagaejigpnaaGreatDoor
open Go PI
set_option linter.unusedVariables false
set_option linter.unusedSimpArgs false
set_option maxRecDepth 20000
variable {S:Type} {k:Nat}
theorem Rd (hk:Fu k) {l:List (Br Tm)} (hl:l.length<1073741824) (h: ∃b∈l,b.face=[⟨0,0⟩]) (ret:Int→Option S): ∃i,0≤i∧qc k l ret=ret i:=by
 simp only [qc,FQ,am hk,ui,xU]
 have: ∀ (r p:List (Br Tm)) (m:Nat),l=p++r→r.length<m→(∃b∈r,b.face=[⟨0,0⟩])→ ∃i,0≤i∧nk k ret l m (p.length:Int)=ret i:=by
  intro r
  induction r with
  |nil=>rintro _ _ _ _ ⟨b,hb,_⟩;cases hb
  |cons x r ih=>
   intro p m h hm hx
   obtain ⟨m,rfl,hm'⟩:=ao hm
   obtain ⟨e1,e2,e3,e4⟩:=aJ h (by omega)
   simp only [nk,tx,e1,ag,e2,Option.bind_some,am hk]
   have hT: ∃c,(x.face=[⟨0,0⟩]→c=true)∧ ∀g:Bool→Option S,qe k x g=g c:=by
    simp only [qe,FR]
    cases hf:x.face with
    |nil=>exact ⟨false,(fun h=>by cases h),fun g=>rfl⟩
    |cons c f=>
     cases f with
     |nil=>exact ⟨c.pos==0&&(c.neg==0&&true),(fun h=>by injection h with h;subst h;rfl),fun g=>rfl⟩
     |cons d f=>
      refine ⟨false,(fun h=>by cases h),fun g=> ?_⟩
      rw [show (((c::d::f).length:Int)==1)=false from by simp;omega,ac]
   obtain ⟨c,hc,hg⟩:=hT
   rw [hg]
   cases c with
   |true=>exact ⟨(p.length:Int),by omega,rfl⟩
   |false=>
    rw [ac,e3]
    refine ih _ m e4 hm' ?_
    obtain ⟨b,hb,e⟩:=hx
    rcases List.mem_cons.1 hb with rfl|hb
    ·cases hc e
    ·exact ⟨b,hb,e⟩
 exact this l [] k rfl (by have:4294967296≤k:=hk;omega) h
theorem L5: ∀ {sys l:List (Br Tm)},(∀b∈sys,b.kids=[dy b])→fe true sys→fj sys= .ok l→ax (aW 0 [⟨0,0⟩] false) (aW 0 [⟨0,0⟩] true) 0 15 l= .ok sys:=by
 intro sys
 induction sys with
 |nil=>intro l _ _ h;rw [fj] at h;injection h with h;subst h;rw [ax]
 |cons b r ih=>
  intro l h1 hp h
  rw [fj] at h
  obtain ⟨f,e1,h⟩:=aq h
  obtain ⟨u,e2,h⟩:=aq h
  obtain ⟨m,e3,h⟩:=aq h
  injection h with h;subst h
  rw [fe] at hp
  obtain ⟨f0,ks⟩:=b
  have hk:=h1 ⟨f0,ks⟩ (by simp)
  simp only at hk e1
  rw [l_] at hp
  obtain ⟨⟨⟨x1,x2⟩,x3⟩,x4⟩:=hp
  rw [hk,dt] at x3
  have ef:aW 0 [⟨0,0⟩] true ((0:Nat):Int) f= .ok f0:=uD x1 (by unfold bB;rw [if_neg (by decide)];exact e1)
  have ef':aW 0 [⟨0,0⟩] true 0 f= .ok f0:=ef
  have ek:=Tx x3.1 e2
  rw [ax,cF,ef',ak,if_neg (fun e=>x2 rfl (List.length_eq_zero_iff.1 e)),aS,show (0:Int)+aw 15=1 from rfl,ek,ak,aS,ak,ak,ak,ih (fun b hb=>h1 b (by simp [hb])) x4 e3,ak]
  rw [←hk];rfl
theorem Gn {fo fa:ca} {l:List (Br Tm)} {a b t:Tm} (h:ay fo fa 0 (.mk 15 0 ByteArray.empty [] [a,b] l)= .ok t):
  ∃g a' b' l',fo 0 []= .ok g∧ay fo fa 0 a= .ok a'∧ay fo fa 0 b= .ok b'∧ax fo fa 0 15 l= .ok l'∧t= .mk 15 0 ByteArray.empty g [a',b'] l':=by
 rw [ay] at h
 obtain ⟨g,e1,h⟩:=aq h
 obtain ⟨ks,e2,h⟩:=aq h
 obtain ⟨s,e3,h⟩:=aq h
 injection h with h
 rw [if_neg (by decide)] at e1
 rw [aO] at e2
 obtain ⟨l',e4,e2⟩:=aq e2
 obtain ⟨m,e5,e2⟩:=aq e2
 injection e2 with e2
 rw [aO] at e5
 obtain ⟨a',e6,e5⟩:=aq e5
 obtain ⟨m',e7,e5⟩:=aq e5
 injection e5 with e5
 rw [aO] at e7
 injection e7 with e7
 subst e7 e5 e2
 exact ⟨g,l',a',s,e1,by simpa [bU] using e4,by simpa [bU] using e6,e3,h.symm⟩
theorem L6 {t a x:Tm} {sys:List (Br Tm)} (h:lQ [t,a,bK sys] (fW t a sys)= .ok x):d9 [t,a,bK sys]=0∧cz x=0∧fW t a sys= .ok x∧
  ∃t' a' l a2,cQ 0 1 t= .ok t'∧cQ 0 1 a= .ok a'∧fj sys= .ok l∧x= .mk 15 0 ByteArray.empty [] [t',a'] (l++[.mk [⟨0,1⟩] [a2]]):=by
 unfold lQ at h
 split at h
 case isFalse=>cases h
 rename_i h1
 unfold gI at h
 obtain ⟨t',h3,h⟩:=aq h
 split at h
 case isFalse=>cases h
 rename_i h4
 injection h with h;subst h
 refine ⟨h1,h4,h3, ?_⟩
 unfold fW at h3
 obtain ⟨f1,e1,h3⟩:=aq h3
 obtain ⟨f,e2,h3⟩:=aq h3
 obtain ⟨l,e3,h3⟩:=aq h3
 obtain ⟨a',e4,h3⟩:=aq h3
 injection h3 with h3
 exact ⟨f1,f,l,a',e1,e2,e3,h3.symm⟩
theorem QU:aW 0 [⟨0,0⟩] true 0 [⟨0,1⟩]= .ok []:=by rfl
theorem QS:aW 0 [] true 0 [⟨0,1⟩]= .ok [⟨0,0⟩]:=by rfl
theorem Q6 (hk:F3 k) {t a:Tm} {sys:List (Br Tm)} (ht:In k t) (ha:In k a) (hs:In k (.mk 0 0 ByteArray.empty [] [] sys)) (ret:Bool→Option S):t7 k t a sys ret=ret true:=by
 simp only [t7,Fy,am hk.fu,a8,RU hk,ag,Bool.not_true,ac]
 obtain ⟨c,hc,hsz⟩: ∃c,mT k t a sys _=_∧_:=Rz hk.fu ht.1 ht.2.1 ha.1 ha.2.1 hs.1 hs.2.1 _
 refine hc.trans ?_
 cases c with
 |true=>rfl
 |false=>
  obtain ⟨_,_,z3⟩:=hsz rfl
  have hszz:aD sys≤150:=by rw [az,aE] at z3;omega
  have hds:bu sys≤150:=by
   have:=qm (.mk 0 0 ByteArray.empty [] [] sys)
   rw [av,bo] at this;omega
  have hw:In k (bK sys):=TC hk hs (by omega) (hk.fd (by omega))
  rw [ac,wO t ht.1 _ ht.2.1]
  cases pt:cE t with
  |false=>rfl
  |true=>
   rw [Bool.not_true,ac,wO a ha.1 _ ha.2.1]
   cases pa:cE a with
   |false=>rfl
   |true=>
    rw [Bool.not_true,ac]
    simp only [t_,FB]
    have hpl:=wO (bK sys) hw.1 (k:=k) (S:=S)
    unfold bK at hpl
    rw [hpl _ hw.2.1]
    cases ps:cE (bK sys) with
    |false=>unfold bK at ps;rw [ps];rfl
    |true=>
     have ps':=ps
     unfold bK at ps'
     rw [ps',Bool.not_true,ac,Q9 hk ht ha hw]
     cases h1:lQ [t,a,bK sys] (fW t a sys) with
     |error e=>
      have:e≠0:=by
       unfold lQ at h1
       split at h1
       ·unfold gI at h1
        rcases ba h1 with h|⟨t,_,h⟩
        ·have:=L0 h;omega
        ·split at h
         ·cases h
         ·rename_i hne;injection h with h;exact h▸hne
       ·rename_i hne;injection h1 with h;exact h▸hne
      rw [show (tE (.error e)).2=e from rfl,show ((e==0):Bool)=false from by simpa using this];rfl
     |ok r=>
      obtain ⟨so,fr,tor,t',a',l,a2,ut,ua,ul,er⟩:=L6 h1
      have fms:=EI (l:=[t,a,bK sys]) (fun x hx=>by
       simp at hx
       rcases hx with rfl|rfl|rfl
       ·exact ht.1
       ·exact ha.1
       ·exact hw.1) so
      have ft:=fms t (by simp)
      have fa:=fms a (by simp)
      have fw:=fms (bK sys) (by simp)
      have sy:=Gv fw
      have ir:=(zP hk ft fa sy tor).1
      have mr:Fm r:=⟨ir.1,fr⟩
      obtain ⟨x,ex⟩:=ST mr
      obtain ⟨y,ey⟩:=SS mr
      have oky:OkT y:=((F4 ey).2.2.2 mr.ok mr.rows).1
      simp only [show ∀t,(tE (.ok t))=(t,0) from fun _=>rfl,beq_self_eq_true,Bool.not_true,ac,ag,mS,xy,jA,sx,wI hk mr (i:=0) (by decide) (df gZ),wI hk mr (i:=0) (by decide) gk,ex,ey]
      rw [F6,er] at ex
      rw [F5,er] at ey
      obtain ⟨g,t1,a1,l1,q1,q2,q3,q4,rfl⟩:=Gn ex
      obtain ⟨g',t2,a2',l2,p1,p2,p3,p4,rfl⟩:=Gn ey
      rw [uC] at q1
      injection q1 with q1
      rw [Gt (ft.pl fun _=>pt) ut] at q2
      rw [Gt (fa.pl fun _=>pa) ua] at q3 p3
      injection q2 with q2
      injection q3 with q3
      injection p3 with p3
      have pls:=fw.pl (pl:=true) fun _=>ps
      unfold bK at pls
      rw [dg] at pls
      have h15:=L5 (fun b hb=>(sy.kid b hb).1) pls.2.2 ul
      rw [ym,h15,ak,ax,cF,QU,ak,if_pos List.length_nil,ak,ax,ak,ak] at q4
      injection q4 with q4
      have q4:=(List.append_nil sys).symm.trans q4
      subst q1 q2 q3 q4 p3
      have ok15:OkT (.mk 15 0 ByteArray.empty [] [t,a] sys):=by
       have h:=hw.1
       unfold bK at h
       rw [OkT] at h ⊢
       rw [bm,bm,bm]
       exact ⟨⟨⟨by decide,by decide⟩,⟨by decide,by decide⟩,by decide,h.1.2.2.2.1,by decide,by simp,h.1.2.2.2.2.2.2⟩,⟨ht.1,ha.1,trivial⟩,h.2.2⟩
      have fd15:Fd k (av (.mk 15 0 ByteArray.empty [] [t,a] sys)):=by
       have d1:=(fZ ft.2).1;have d2:=(fZ fa.2).1
       exact hk.fd (by rw [av,bo,bo,bo];omega)
      rw [Ej _ ok15 _ fd15,ag]
      have htot: ∃b∈l2,b.face=[⟨0,0⟩]:=by
       rw [ym] at p4
       obtain ⟨s1,_,p4⟩:=aq p4
       obtain ⟨s2,e2,p4⟩:=aq p4
       injection p4 with p4;subst p4
       rw [ax,cF,QS,ak,if_neg (by decide)] at e2
       obtain ⟨o,e3,e2⟩:=aq e2
       obtain ⟨ks,e5,e3⟩:=aq e3
       injection e3 with e3
       obtain ⟨o2,e4,e2⟩:=aq e2
       injection e2 with e2;subst e2 e3
       exact ⟨⟨[⟨0,0⟩],ks⟩,by simp,rfl⟩
      obtain ⟨i,hi,hT⟩:=Rd hk.fu oky.node.2.2.2.2.2.2 htot (fun r13=>ab (decide ((r13:Int)≥0)) (dw k a a fun r15=>ret r15) (ret false))
      refine Eq.trans ?_ (hT.trans ?_)
      ·rfl
      ·rw [decide_eq_true hi,ag,Ej a ha.1 _ ha.2.1]
end Go.Proofs.YtapmagaejigpnaaGreatDoor
namespace Go.Proofs.YtapmagaejigpnaaGreatDoor
open Go PI Go.ChangeShapes Go.WideShapes Go.ChangeAt Go.RowKit
set_option linter.unusedVariables false
set_option linter.unusedSimpArgs false
set_option maxRecDepth 100000
theorem Ag {k:Nat} (hk:4296016872≤k) {H:Type} {t:Tm} {d:DataW H} (h:QT t d) (hb:Rows.uptoBulk d≤1048576):In k t:=by
 have h1:=h.1
 have h2:=qm t
 exact ⟨h.2 (by omega),by unfold Fd;omega,by omega⟩
theorem MF {k:Nat} (hk:4296016872≤k) {H:Type} {l:List (Br Tm)} {d:DataW H} (h:(aD l+1≤Rows.uptoBulk d∧l.length+1≤Rows.uptoBulk d)∧(Rows.uptoBulk d<1073741824→bh l)) (hb:Rows.uptoBulk d≤1048575):In k (.mk 0 0 ByteArray.empty [] [] l):=by
 have hz:az (.mk 0 0 ByteArray.empty [] [] l)=1+aD l:=by rw [az,aE]
 have h1:=h.1
 have h2:=qm (.mk 0 0 ByteArray.empty [] [] l)
 refine ⟨?_,by unfold Fd;omega,by omega⟩
 rw [OkT,bm]
 exact ⟨⟨by unfold aI;omega,by unfold aI;omega,by show 0<_;omega,fun c hc=>(by cases hc),by simp,by simp,by omega⟩,trivial,h.2 (by omega)⟩
theorem Ou {k:Nat} (hk:4296016872≤k) {o:Obj} (ho:ad o) {t0:Tm} (h0:In k t0) {t1:Tm} (h1:In k t1) {t2:List (Br Tm)} (h2:In k (.mk 0 0 ByteArray.empty [] [] t2)):
  bS (LL o) 4 [.agg (cx ET.T t0),.agg (cx ET.T t1),eL t2 .none] [] (.ret (.bool true) []):=by
 have hF:F3 k:=by unfold F3;omega
 obtain ⟨j,rfl⟩: ∃j,k=j+1:=⟨k-1,by omega⟩
 obtain ⟨out,hout,hx⟩:=SW (S:=Out UU) o ho (j+1) [.agg (cx ET.T t0),.agg (cx ET.T t1),eL t2 .none] [] some (.ret (.bool true) []) (by
  cases t0;cases t1
  exact Eq.trans (by kernel_rfl) (Q6 hF h0 h1 h2 fun r=>some (Out.ret (U:=UU) (.bool r) [])))
 injection hx with hx
 exact hx▸hout
theorem Ot (H:Type) (enc:TypeId×Value→H) (W:World) (base:Nat) (args:Array Value) (ds gs:List (DataW H)) (before:List MemPlace)
  (hval: ∀ (j:Nat) t v,Tryz.f4.params[j]? =some t→args[j]? =some v→Value.okWide Tryz.prog W .any base t v)
  (hW:DataW.Whole enc Tryz.prog Tryz.f4.params.toList Rows.buildFillsSpec.vars false W args.toList ds gs before) (hL:laidMetH Tryz.prog Rows.buildFillsRow.laid W) (hb:Rows.uptoBulkAll (ds++gs)≤1048576):
  Calls Tryz.prog 4 args W fun e W'=> ∃v,e= .returned v∧Rows.buildFillsSpec.post enc Tryz.prog Tryz.f4 false true false false W args v W':=by
 have hW':=hW
 obtain ⟨p,q,hA0,hV,rfl,hfz,hnd⟩:=hW
 have hA:DataW.TrodAll enc Tryz.prog W 0 (fun _=>true) true Tryz.f4.params.toList args.toList ds p:=hA0
 rw [Tryz.params4] at hA hval
 obtain ⟨v0,vs0,d0,ds0,p0,q0,hargs,rfl,rfl,h0,r0⟩:=trodAll_cons hA
 obtain ⟨v1,vs1,d1,ds1,p1,q1,rfl,rfl,rfl,h1,r1⟩:=trodAll_cons r0
 obtain ⟨v2,vs2,d2,ds2,p2,q2,rfl,rfl,rfl,h2,r2⟩:=trodAll_cons r1
 obtain ⟨rfl,rfl,rfl⟩:=trodAll_nil r2
 obtain rfl:args= #[v0,v1,v2]:=by cases args;simp_all
 obtain ⟨rfl,rfl⟩:=trodVars_none hV
 obtain ⟨o,ho,hh⟩:=SO hL
 simp only [List.append_nil,Rows.uptoBulkAll,Nat.add_zero] at hb
 obtain ⟨t0,e0,k0⟩:=yz (o:=o) (g:=gB UU 0 fun _=>0) vD h0
 obtain ⟨t1,e1,k1⟩:=yz (o:=o) (g:=gB UU 0 fun _=>0) vD h1
 obtain ⟨t2,e2,k2⟩:=JH (o:=o) (g:=gB UU 0 fun _=>0) vD (hval 2 24 v2 rfl rfl) h2
 have b0:=yI d0
 have b1:=yI d1
 have hk:(4296016872:Nat)≤4296016872:=Nat.le_refl _
 generalize hkk:(4296016872:Nat)=k at hk
 have hok:=Ou (k:=k) (by omega) ho (Ag (by omega) k0 (by omega)) (Ag (by omega) k1 (by omega)) (MF (by omega) k2 (by omega))
 refine (J4 hok (Mn hh rfl rfl fun j p hj=> ?_)).mono ?_
 ·match j,hj with
  |0,hj=>cases hj;exact e0
  |1,hj=>cases hj;exact e1
  |2,hj=>cases hj;exact e2
  |j+3,hj=>simp at hj
 ·rintro e W' ⟨rfl,hkept⟩
  refine ⟨_,rfl,PW rfl rfl (fun t ht=> ?_) rfl hW' hkept⟩
  rw [Tryz.params4] at ht
  have ht':t=26∨t=26∨t=24:=by simpa using ht
  rcases ht' with rfl|rfl|rfl<;>exact of_decide_eq_true (by kernel_rfl)
noncomputable def va (os:Os):World:=
 {World.holding Tryz.prog os ⟨#[],#[],[]⟩ with heap:=(World.holding Tryz.prog os ⟨#[],#[],[]⟩).heap.modify 0 fun
   | .cells _ t frozen=> .cells (Lib.deBruijn32tab.map fun n:Nat=>Value.int .u8 n).toArray t frozen
   |o=>o}
def GR:Value:= .agg #[.int .i64 0,.int .i64 0,.string ByteArray.empty,.slice none 0 0,.slice none 0 0,.slice none 0 0]
def zeroArgs:Array Value:= #[GR,GR,.slice none 0 0]
def GQ {H:Type}:DataW H:= .agg [.lit (.int .i64 0),.lit (.int .i64 0),.lit (.string []),.nil,.nil,.nil]
theorem On (os:Os):laidMet Tryz.prog Rows.buildFillsRow.laid ((va os).forCall (fun _ _=>0) ⟨#[],zeroArgs,[]⟩).memory:=
 laidMet_of_run' 8 (by kernel_rfl) (by kernel_rfl)
theorem QF (os:Os) {H:Type} (enc:TypeId×Value→H): ∃places,DataW.whole enc Tryz.prog ((va os).forCall (fun _ _=>0) ⟨#[],zeroArgs,[]⟩).memory Tryz.f4.params.toList Rows.buildFillsSpec.vars false zeroArgs.toList 8=some ([GQ,GQ,.nil],[],places):=
 ⟨[],by kernel_rfl⟩
theorem OK (os:Os) (started:os.Started) (H:Type) (enc:TypeId×Value→H) (F:Stop.Interp):
  ReturnsInHanded {} Tryz.checked os 4 .any ((Rows.OpenSpec.upto Rows.buildFillsSpec).preRow enc Tryz.prog Tryz.f4 Rows.buildFillsUptoRow.domain false Rows.buildFillsUptoRow.laid) (((Rows.OpenSpec.upto Rows.buildFillsSpec).at F).post enc Tryz.prog Tryz.f4 false true false false):=by
 obtain ⟨places,hx⟩:=QF os enc
 refine returnsInHanded_of_row (C:=Tryz.checked) (s:=Rows.OpenSpec.upto Rows.buildFillsSpec) own started (by kernel_rfl) Tryz.func4
  (witness_row_at (enc:=enc) (C:=Tryz.checked) false (va os) zeroArgs rfl (by kernel_rfl) (by kernel_rfl) (by kernel_rfl)
   (OpenSpec.preRow_of_cond 8 hx (by kernel_rfl) (fun k hk=>by cases hk;kernel_rfl) (by kernel_rfl) (On os))) ?_
 intro W base args ds gs before hval hW _ hcond _ hL _ _
 exact Ot H enc W base args ds gs before hval hW hL (of_decide_eq_true (hcond _ rfl))
theorem RV:Rows.BuildFillsUptoSaid:=
 OpenClaim.holds_of_cond 4 Tryz.f4 rfl rfl rfl rfl rfl rfl rfl ⟨rfl,rfl,rfl,rfl,rfl⟩ rfl rfl rfl rfl rfl (by kernel_rfl) Tryz.func4 (by kernel_rfl)
  (of_decide_eq_true (by kernel_rfl)) (by unfold Func.isWrapper;first|(rw [if_pos (by decide+kernel)];kernel_rfl)|(rw [if_neg (by decide+kernel)];exact ⟨rfl,rfl⟩))
  (fun os started H enc _ F=>by rw [OpenClaim.pre_eq_preRow];exact OK os started H enc F)
theorem plain (f:FuncId) (fn:Func) (hf:Tryz.pinned.checked.prog.funcNamed "hypercube/hypercubelaw15.BuildFills" =some f) (hfn:Tryz.pinned.checked.prog.funcs[f]? =some fn):
  true=Tryz.pinned.checked.prog.looks []∧ ∀ (j:Nat) t,fn.params[j]? =some t→Tryz.pinned.checked.prog.wantsStandIn t=false:=by
 obtain rfl:f=4:=Option.some.inj ((show Tryz.prog.funcNamed "hypercube/hypercubelaw15.BuildFills" =some 4 by kernel_rfl).symm.trans hf)|>.symm
 obtain rfl:fn=Tryz.f4:=(Option.some.inj (Tryz.func4.symm.trans hfn)).symm
 refine ⟨by kernel_rfl,fun j t ht=> ?_⟩
 rw [Tryz.params4] at ht
 have ht':t=26∨t=26∨t=24:=by simpa using Array.mem_of_getElem? ht
 rcases ht' with rfl|rfl|rfl
 ·exact (show Tryz.prog.wantsStandIn 26=false by kernel_rfl)
 ·exact (show Tryz.prog.wantsStandIn 26=false by kernel_rfl)
 ·exact (show Tryz.prog.wantsStandIn 24=false by kernel_rfl)
theorem buildFills_holds:Rows.BuildFillsUptoCardSaid:=
 Claim7.holds_tied_plain_at .later [] _ _ _ _ RV (fun _ h=>by cases h) (by kernel_rfl) (fun _ h=>by cases h) buildFillsUpto_row_tie rfl ⟨rfl,rfl⟩ (by kernel_rfl) rfl plain (by kernel_rfl)
#print axioms buildFills_holds
end Go.Proofs.YtapmagaejigpnaaGreatDoor
