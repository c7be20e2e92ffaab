/- BuildComps answers true at every input of bulk at most 1048576, and leaves its arguments as they were: the second form's card. -/
import Derived.Test.YtapmagaejigpnaaGreatDoorX8
import Derived.KernelRfl
namespace Go.Proofs.YtapmagaejigpnaaGreatDoor
open Go PI
set_option linter.unusedVariables false
set_option linter.unusedSimpArgs false
set_option maxRecDepth 20000
variable {S:Type} {k:Nat}
theorem Ot {l:List Cl} (hl:l.length<1073741824) (ret:List Cl→Option S):p_ l ret=ret l:=by
 unfold p_
 rw [aO (by simp;omega)]
section
variable {hd:Tm→(Tm→Option S)→Option S}
theorem aaL (hk:Fu k) (ret:List Tm→Option S) {l:List Tm} (hQ: ∀y∈l,∀g,hd y g=g y) (hl:l.length<1073741824):
  ∀ (r p:List Tm) (m:Nat),l=p++r→r.length<m→pO hd k ret l m p (p.length:Int)=ret l:=by
 intro r
 induction r with
 |nil=>
  intro p m h hm
  obtain ⟨m,rfl,hm'⟩:=ak hm
  simp only [pO,wv,aA h,ad]
  rw [h,List.append_nil]
 |cons y r ih=>
  intro p m h hm
  obtain ⟨m,rfl,hm'⟩:=ak hm
  obtain ⟨e1,e2,e3,e4⟩:=az h (by omega)
  have hlen:p.length+r.length+1=l.length:=by rw [h];simp;omega
  simp only [pO,wv,e1,ae,e2,Option.bind_some,aq,e3,hQ y (by rw [h];simp)]
  rw [aO (by simp;omega)]
  exact ih (p++[y]) m e4 hm'
theorem Ov (hk:Fu k) {l:List Tm} (hQ: ∀y∈l,∀g,hd y g=g y) (hl:l.length<1073741824) (ret:List Tm→Option S):sW hd k l ret=ret l:=by
 simp only [sW,GR]
 exact aaL hk ret hQ hl l [] k rfl (by have:4294967296≤k:=hk;omega)
theorem aaM (hk:Fu k) (ret:Tm→Option S) {t:Tm} (ht:OkT t) (hQ: ∀b∈t.sys,∀y∈b.kids,∀g,hd y g=g y) (r1:List Cl) (r2:List Tm):
  ∀ (r p:List (Br Tm)) (m:Nat),t.sys=p++r→r.length<m→pN hd k ret t r1 r2 m p (p.length:Int)=ret (.mk t.kind t.n t.name r1 r2 t.sys):=by
 obtain ⟨o1,o2,o3,o4,o5,o6,o7⟩:=ht.no
 intro r
 induction r with
 |nil=>
  intro p m h hm
  obtain ⟨m,rfl,hm'⟩:=ak hm
  simp only [pN,wt,aA h,ad]
  rw [h,List.append_nil]
 |cons y r ih=>
  intro p m h hm
  obtain ⟨m,rfl,hm'⟩:=ak hm
  obtain ⟨e1,e2,e3,e4⟩:=az h (by omega)
  have hy:y∈t.sys:=by rw [h];simp
  have hb:=(ht.bi hy).1
  have hlen:p.length+r.length+1=t.sys.length:=by rw [h];simp;omega
  simp only [pN,wt,e1,ae,e2,Option.bind_some,aq,e3,Ot hb.2.1,af hk,Ov hk (hQ y hy) hb.2.2]
  rw [aO (by simp;omega)]
  have:=ih (p++[y]) m e4 hm'
  cases y
  exact this
end
theorem qB (t:Tm):OkT t→ ∀ {k:Nat} (ret:Tm→Option S),Fd k (ar t)→dF k t ret=ret t:=by
 induction t using d4 with
 |h t ih1 ih2=>
  intro ht k ret hk
  obtain ⟨q,rfl,hq,hf⟩:=hk.pos' (cS t)
  obtain ⟨o1,o2,o3,o4,o5,o6,o7⟩:=ht.no
  simp only [dF,GQ,Ot o5,af hq,Ov hq (fun y hy g=>ih1 y hy (ht.ki hy) g (hf _ (cR hy))) o6]
  have:=aaM hq ret ht (fun b hb y hy g=>ih2 b hb y hy ((ht.bi hb).2 y hy) g (hf _ (cQ hb hy))) t.r t.kids t.sys [] q rfl (by have:4294967296≤q:=hq;omega)
  refine Eq.trans this ?_
  cases t;rfl
theorem adk {v d d':Int} (h:24≤d) (h':24≤d') (t:Tm):eo v d t=eo v d' t:=by
 have hb: ∀kd,cF kd d=cF kd d':=fun kd=>by funext b;unfold cF;rw [nq h,nq h']
 cases t
 rw [eo,eo,hb,nq h,nq h']
theorem Bb (t:Tm): ∀ {v d d':Int},24≤d→24≤d'→bz false v d t=bz false v d' t:=by
 induction t using d4 with
 |h t ih1 ih2=>
  intro v d d' h h'
  rw [qZ,qZ,adk h h']
  have hK: ∀ (l:List Tm) (i:Nat),(∀x∈l,x∈t.kids)→ci false v d t.kind i l=ci false v d' t.kind i l:=by
   intro l
   induction l with
   |nil=>intro i _;rw [ci,ci]
   |cons x l ih=>
    intro i hl
    rw [ci,ci,ih _ fun y hy=>hl y (by simp [hy]),ih1 x (hl x (by simp)) (d:=d+bQ t.kind i) (d':=d'+bQ t.kind i) (by have:=gO t.kind i;omega) (by have:=gO t.kind i;omega)]
  rw [hK _ _ fun x hx=>hx,u9,u9]
  have hS:(t.sys.all fun b=>b.kids.all (bz false v (d+aE t.kind)))=t.sys.all fun b=>b.kids.all (bz false v (d'+aE t.kind)):=by
   rw [Bool.eq_iff_iff,List.all_eq_true,List.all_eq_true]
   have he: ∀b∈t.sys,∀x∈b.kids,bz false v (d+aE t.kind) x=bz false v (d'+aE t.kind) x:=fun b hb x hx=>ih2 b hb x hx (by have:=ei t.kind;omega) (by have:=ei t.kind;omega)
   constructor
   ·intro hh b hb
    rw [List.all_eq_true]
    intro x hx
    rw [←he b hb x hx]
    exact List.all_eq_true.1 (hh b hb) x hx
   ·intro hh b hb
    rw [List.all_eq_true]
    intro x hx
    rw [he b hb x hx]
    exact List.all_eq_true.1 (hh b hb) x hx
  rw [hS]
  simp
end Go.Proofs.YtapmagaejigpnaaGreatDoor
namespace Go.Proofs.YtapmagaejigpnaaGreatDoor
open Go PI
set_option linter.unusedVariables false
set_option linter.unusedSimpArgs false
set_option maxRecDepth 20000
variable {S:Type} {k:Nat}
def aH (kd:Int) (l:List Tm):Tm:= .mk kd 0 ByteArray.empty [] l []
def vN (n:Int):Tm:= .mk 1 n ByteArray.empty [] [] []
def ba (c a b:Int) (t:Tm):Tm×Int:=if c=0 then tE (aD a b t) else (aN,c)
def dq (p:Tm×Int):Except Int Tm:=if p.2=0 then .ok p.1 else .error p.2
theorem er {c a b:Int} {t:Tm} (h:c≠0):ba c a b t=(aN,c):=if_neg h
theorem gH {c a b:Int} {t:Tm} (h:(ba c a b t).2=0):c=0:=by
 by_cases hc:c=0
 ·exact hc
 ·rw [er hc] at h;exact h
theorem iD (a b:Int) (t:Tm):ba 0 a b t=tE (aD a b t):=rfl
theorem iz (hk:F3 k) {c:Int} {t:Tm} (h:c=0→Fm t) {a b:Int} (ha:0≤a∧a≤1000000) (hb:0≤b∧b<9223372036854775808) (ret:Tm×Int→Option S):co k t a b c ret=ret (ba c a b t):=by
 by_cases hc:c=0
 ·subst hc;exact Fg hk (h rfl) ha hb ret
 ·rw [nN hc hk,er hc]
theorem ahH (x:Except Int Tm) (h: ∀e,x= .error e→e≠0):dq (tE x)=x:=by
 cases x with
 |ok t=>rfl
 |error e=>exact if_neg (h e rfl)
theorem uG (hk:F3 k) {t:Tm} {c:Int} (h:c=0→In k t) (ret:Tm×Int→Option S):(cO k t c fun r=>ret (r.1,r.2.1))=ret (tE (eD (dq (t,c)))):=by
 by_cases hc:c=0
 ·subst hc
  rw [Ox hk (h rfl)]
  show _=ret (tE (eD (.ok t)))
  unfold eD
  rw [ao]
  by_cases h0:cG t=0
  ·rw [if_pos h0,if_pos h0];rfl
  ·rw [if_neg h0,if_neg h0];rfl
 ·rw [it hc hk]
  show _=ret (tE (eD (if c=0 then _ else _)))
  rw [if_neg hc];rfl
def dG (c:Int) (t a f y:Tm):Tm×Int:=
 (aH 7 [t,aH 11 [(ba c 1 1 a).1,(ba (ba c 1 1 a).2 1 0 y).1,aH 6 [(ba (ba (ba c 1 1 a).2 1 0 y).2 1 0 f).1,vN 0]]],(ba (ba (ba c 1 1 a).2 1 0 y).2 1 0 f).2)
def dT (t a f y:Tm):Except Int Tm:=bE (aD 1 1 a) fun a'=>bE (aD 1 0 y) fun y'=>bE (aD 1 0 f) fun f'=> .ok (aH 7 [t,aH 11 [a',y',aH 6 [f',vN 0]]])
theorem oS {c:Int} (h:c≠0) (t a f y:Tm):(dG c t a f y).2=c:=by
 unfold dG
 rw [er h,er h,er h]
theorem yh (t a f y:Tm):dq (dG 0 t a f y)=dT t a f y:=by
 unfold dG dT
 rw [iD]
 cases h1:aD 1 1 a with
 |error e=>
  have he:e≠0:=by have:=b_ h1;omega
  show dq (_,(ba (ba e 1 0 y).2 1 0 f).2)=_
  rw [er he,er he,dx];exact if_neg he
 |ok a'=>
  rw [ao]
  show dq (aH 7 [t,aH 11 [a',(ba 0 1 0 y).1,aH 6 [(ba (ba 0 1 0 y).2 1 0 f).1,vN 0]]],(ba (ba 0 1 0 y).2 1 0 f).2)=_
  rw [iD]
  cases h2:aD 1 0 y with
  |error e=>
   have he:e≠0:=by have:=b_ h2;omega
   show dq (_,(ba e 1 0 f).2)=_
   rw [er he,dx];exact if_neg he
  |ok y'=>
   rw [ao]
   show dq (aH 7 [t,aH 11 [a',y',aH 6 [(ba 0 1 0 f).1,vN 0]]],(ba 0 1 0 f).2)=_
   rw [iD]
   cases h3:aD 1 0 f with
   |error e=>
    have he:e≠0:=by have:=b_ h3;omega
    rw [dx];exact if_neg he
   |ok f'=>rfl
theorem OC (hk:F3 k) {c:Int} {t a f y:Tm} (ha:c=0→Fm a) (hf:c=0→Fm f) (hy:c=0→Fm y) (ret:Int×Int×ByteArray×List Tm×Int→Option S):
  n_ k t a f y c ret=ret (7,0,ByteArray.empty,(dG c t a f y).1.kids,(dG c t a f y).2):=by
 simp only [n_,Pk,af hk.fu,aq,iz hk ha (show (0:Int)≤1∧(1:Int)≤1000000 by omega) (show (0:Int)≤1∧(1:Int)<9223372036854775808 by omega),
  iz hk (fun h=>hy (gH h)) (show (0:Int)≤1∧(1:Int)≤1000000 by omega) (show (0:Int)≤0∧(0:Int)<9223372036854775808 by omega),
  iz hk (fun h=>hf (gH (gH h))) (show (0:Int)≤1∧(1:Int)≤1000000 by omega) (show (0:Int)≤0∧(0:Int)<9223372036854775808 by omega),eR,zV,bt,fz]
 rfl
def d8 (c:Int) (t:Tm):Tm×Int:=(aH 7 [t,aH 4 [(ba c 1 0 t).1,aH 11 [(ba (ba c 1 0 t).2 2 1 t).1,vN 1,vN 0]]],(ba (ba c 1 0 t).2 2 1 t).2)
def eB (t:Tm):Except Int Tm:=bE (aD 1 0 t) fun t1=>bE (aD 2 1 t) fun t2=> .ok (aH 7 [t,aH 4 [t1,aH 11 [t2,vN 1,vN 0]]])
theorem mD {c:Int} (h:c≠0) (t:Tm):(d8 c t).2=c:=by
 unfold d8
 rw [er h,er h]
theorem By (t:Tm):dq (d8 0 t)=eB t:=by
 unfold d8 eB
 rw [iD]
 cases h1:aD 1 0 t with
 |error e=>
  have he:e≠0:=by have:=b_ h1;omega
  show dq (_,(ba e 2 1 t).2)=_
  rw [er he,dx];exact if_neg he
 |ok a'=>
  rw [ao]
  show dq (aH 7 [t,aH 4 [a',aH 11 [(ba 0 2 1 t).1,vN 1,vN 0]]],(ba 0 2 1 t).2)=_
  rw [iD]
  cases h2:aD 2 1 t with
  |error e=>
   have he:e≠0:=by have:=b_ h2;omega
   rw [dx];exact if_neg he
  |ok y'=>rfl
theorem Ou (hk:F3 k) {c:Int} {t:Tm} (h:c=0→Fm t) (ret:Int×Int×ByteArray×List Tm×Int→Option S):
  n9 k t c ret=ret (7,0,ByteArray.empty,(d8 c t).1.kids,(d8 c t).2):=by
 simp only [n9,Pi,af hk.fu,aq,iz hk h (show (0:Int)≤1∧(1:Int)≤1000000 by omega) (show (0:Int)≤0∧(0:Int)<9223372036854775808 by omega),
  iz hk (fun z=>h (gH z)) (show (0:Int)≤2∧(2:Int)≤1000000 by omega) (show (0:Int)≤1∧(1:Int)<9223372036854775808 by omega),eR,zV,bt,fz]
 rfl
def ag6 (q p:Tm×Int):Tm×Int:=dG p.2 q.1 p.1 (vN 1) (vN 0)
def ld (c:Int) (t a:Tm):Tm×Int:=
 let p1:=ba c 1 0 a
 let p2:=ba p1.2 1 0 a
 let p3:=ba p2.2 2 0 t
 let p4:=ba p3.2 2 0 a
 let p5:=dG p4.2 p3.1 p4.1 (vN 1) (vN 0)
 let p6:=d8 p5.2 p5.1
 (aH 7 [aH 4 [t,p1.1],aH 4 [p2.1,p6.1]],p6.2)
def jb (t a:Tm):Except Int Tm:=bE (aD 1 0 a) fun a1=>bE (aD 1 0 a) fun y=>bE (aD 2 0 t) fun t'=>bE (aD 2 0 a) fun a'=>bE (dT t' a' (vN 1) (vN 0)) fun x=>bE (eB x) fun c=> .ok (aH 7 [aH 4 [t,a1],aH 4 [y,c]])
theorem Y6 {c:Int} (h:c≠0) (t a:Tm):(ld c t a).2=c:=by
 unfold ld
 simp only [er h,oS h,mD h]
theorem Iz {t a f y:Tm} {e:Int} (h:dT t a f y= .error e):0<e∧e≤1000:=by
 rcases a_ h with h|⟨_,_,h⟩
 ·exact b_ h
 rcases a_ h with h|⟨_,_,h⟩
 ·exact b_ h
 rcases a_ h with h|⟨_,_,h⟩
 ·exact b_ h
 ·cases h
theorem HB {t:Tm} {e:Int} (h:eB t= .error e):0<e∧e≤1000:=by
 rcases a_ h with h|⟨_,_,h⟩
 ·exact b_ h
 rcases a_ h with h|⟨_,_,h⟩
 ·exact b_ h
 ·cases h
theorem Rc {p:Tm×Int} {t:Tm} (h:dq p= .ok t):p=(t,0):=by
 unfold dq at h
 split at h
 ·next h0=>injection h with h;exact Prod.ext h h0
 ·cases h
theorem Rb {p:Tm×Int} {e:Int} (h:dq p= .error e):p.2=e∧e≠0:=by
 unfold dq at h
 split at h
 ·cases h
 ·next h0=>injection h with h;exact ⟨h,h▸h0⟩
theorem Iw (t a:Tm):dq (ld 0 t a)=jb t a:=by
 unfold ld jb
 simp only [iD]
 cases h1:aD 1 0 a with
 |error e=>
  have he:e≠0:=by have:=b_ h1;omega
  rw [dx]
  show dq (_,(d8 (dG (ba (ba (ba e 1 0 a).2 2 0 t).2 2 0 a).2 _ _ _ _).2 _).2)=_
  simp only [er he,oS he,mD he]
  exact if_neg he
 |ok a1=>
  simp only [ao,tE,iD,h1]
  cases h3:aD 2 0 t with
  |error e=>
   have he:e≠0:=by have:=b_ h3;omega
   rw [dx]
   simp only [tE,er he,oS he,mD he]
   exact if_neg he
  |ok t'=>
   simp only [ao,tE,iD]
   cases h4:aD 2 0 a with
   |error e=>
    have he:e≠0:=by have:=b_ h4;omega
    rw [dx]
    simp only [tE,oS he,mD he]
    exact if_neg he
   |ok a'=>
    simp only [ao,tE]
    rw [←yh]
    cases h5:dq (dG 0 t' a' (vN 1) (vN 0)) with
    |error e=>
     obtain ⟨h6,he⟩:=Rb h5
     rw [dx,h6,mD he]
     exact if_neg he
    |ok x=>
     rw [ao,Rc h5,←By]
     cases h7:dq (d8 0 x) with
     |error e=>
      obtain ⟨h8,he⟩:=Rb h7
      rw [dx,h8]
      exact if_neg he
     |ok c=>rw [ao,Rc h7];rfl
theorem pZ (n:Int) (h:0≤n∧n≤10):OkT (vN n):=by
 unfold vN
 rw [OkT,bw,bu]
 exact ⟨⟨by unfold aF;omega,by unfold aF;omega,by show 0<_;omega,fun c hc=>(by cases hc),by simp,by simp,by simp⟩,trivial,trivial⟩
theorem fm_v0:Fm (vN 0):=⟨pZ 0 (by omega),by rfl⟩
theorem fm_v1:Fm (vN 1):=⟨pZ 1 (by omega),by rfl⟩
theorem lS {kd:Int} (hkd:0≤kd∧kd≤28) {l:List Tm} (hl:l.length<10) (h: ∀x∈l,OkT x):OkT (aH kd l):=by
 unfold aH
 rw [OkT,okK_iff,bu]
 exact ⟨⟨by unfold aF;omega,by unfold aF;omega,by show 0<_;omega,fun c hc=>(by cases hc),by simp,by omega,by simp⟩,h,trivial⟩
theorem Hf {kd d:Int} (hd:24≤d) {l:List Tm} (ho:eo (-1) 24 (aH kd l)=true) (h: ∀x∈l,bz false (-1) 24 x=true):bz false (-1) d (aH kd l)=true:=by
 rw [Bb (aH kd l) hd (show (24:Int)≤24 by omega),qZ,ho]
 have hK: ∀ (r:List Tm) (i:Nat),(∀x∈r,bz false (-1) 24 x=true)→ci false (-1) 24 kd i r=true:=by
  intro r
  induction r with
  |nil=>intro i _;rw [ci]
  |cons x r ih=>
   intro i hr
   have hb:=gO kd i
   rw [ci,ih _ fun y hy=>hr y (by simp [hy])]
   have hv:dA (-1) (dP kd i)= -1:=rfl
   rw [hv,Bb x (show (24:Int)≤24+bQ kd i by omega) (show (24:Int)≤24 by omega),hr x (by simp)];rfl
 show (!(false&&_)&&(true&&(ci false (-1) 24 kd 0 l&&dc false (-1) 24 kd [])))=true
 rw [hK l 0 h,dc];rfl
def Fd2 (n m:Nat) (t:Tm):Prop:=OkT t∧bz false (-1) 24 t=true∧ar t≤n∧ax t≤m
theorem Fd2.fm {n m:Nat} {t:Tm} (h:Fd2 n m t) (hn:n≤200) (hm:m≤20000):Fm t:=⟨h.1,CD (by have:=h.2.2.1;omega) (by have:=h.2.2.2;omega) h.2.1⟩
theorem Fd2.isIn {n m:Nat} {t:Tm} (h:Fd2 n m t) (hk:F3 k) (hn:n≤1000) (hm:m≤1000000):In k t:=⟨h.1,hk.fd (by have:=h.2.2.1;omega),by have:=h.2.2.2;omega⟩
theorem Fm.f2 {t:Tm} (h:Fm t):Fd2 200 20000 t:=⟨h.1,(jX h.2).2.2,(jX h.2).1,(jX h.2).2.1⟩
theorem Fd2.mono {n m n' m':Nat} {t:Tm} (h:Fd2 n m t) (hn:n≤n') (hm:m≤m'):Fd2 n' m' t:=⟨h.1,h.2.1,by have:=h.2.2.1;omega,by have:=h.2.2.2;omega⟩
theorem Fd2.up {n m:Nat} {t t':Tm} (h:Fd2 n m t) {a b:Int} (ha:0≤a∧a≤1000000000) (hl:aD a b t= .ok t'):Fd2 n m t':=by
 obtain ⟨u,h1,h2⟩:=aK hl
 obtain ⟨p1,p2,p3,p4⟩:=De ha.1 ha.2 t 0 0 u h1
 obtain ⟨q1,q2,q3,q4⟩:=De (by omega) (by omega) u 0 0 t' h2
 have w:=p4 h.1
 have w2:=q4 w.1
 have ho:=w.2.2 24 24 (by omega) (by omega) h.2.1
 exact ⟨w2.1,w2.2.2 24 24 (by omega) (by omega) ho,by have:=h.2.2.1;omega,by have:=h.2.2.2;omega⟩
theorem mR {kd:Int} (hkd:0≤kd∧kd≤28) {n m:Nat} {a b:Tm} (ho:eo (-1) 24 (aH kd [a,b])=true) (ha:Fd2 n m a) (hb:Fd2 n m b):Fd2 (n+1) (2*m+1) (aH kd [a,b]):=by
 have hx: ∀x∈[a,b],Fd2 n m x:=fun x hx=>by simp at hx;rcases hx with rfl|rfl<;>assumption
 refine ⟨lS hkd (by simp) fun x h=>(hx x h).1,Hf (by omega) ho fun x h=>(hx x h).2.1, ?_, ?_⟩
 ·unfold aH;rw [ar,aP,aP,aP,bh];have:=ha.2.2.1;have:=hb.2.2.1;omega
 ·unfold aH;rw [ax,aw,aw,aw,aI];have:=ha.2.2.2;have:=hb.2.2.2;omega
theorem Iy {kd:Int} (hkd:0≤kd∧kd≤28) {n m:Nat} {a b c:Tm} (ho:eo (-1) 24 (aH kd [a,b,c])=true) (ha:Fd2 n m a) (hb:Fd2 n m b) (hc:Fd2 n m c):Fd2 (n+1) (3*m+1) (aH kd [a,b,c]):=by
 have hx: ∀x∈[a,b,c],Fd2 n m x:=fun x hx=>by simp at hx;rcases hx with rfl|rfl|rfl<;>assumption
 refine ⟨lS hkd (by simp) fun x h=>(hx x h).1,Hf (by omega) ho fun x h=>(hx x h).2.1, ?_, ?_⟩
 ·unfold aH;rw [ar,aP,aP,aP,aP,bh];have:=ha.2.2.1;have:=hb.2.2.1;have:=hc.2.2.1;omega
 ·unfold aH;rw [ax,aw,aw,aw,aw,aI];have:=ha.2.2.2;have:=hb.2.2.2;have:=hc.2.2.2;omega
theorem jW {n m:Nat} (hn:1≤n) (hm:1≤m) {i:Int} (hi:i=0∨i=1):Fd2 n m (vN i):=by
 have:Fd2 1 1 (vN i):=by
  rcases hi with rfl|rfl
  ·exact ⟨fm_v0.1,by rfl,by show 1≤1;omega,by show 1≤1;omega⟩
  ·exact ⟨fm_v1.1,by rfl,by show 1≤1;omega,by show 1≤1;omega⟩
 exact this.mono hn hm
theorem tk {n m:Nat} (hn:1≤n) (hm:1≤m) {t a f y x:Tm} (ht:Fd2 n m t) (ha:Fd2 n m a) (hf:Fd2 n m f) (hy:Fd2 n m y) (h:dT t a f y= .ok x):Fd2 (n+3) (12*m+9) x:=by
 obtain ⟨a',h1,h⟩:=aK h
 obtain ⟨y',h2,h⟩:=aK h
 obtain ⟨f',h3,h⟩:=aK h
 injection h with h;subst h
 have c1:=mR (kd:=6) (by omega) (by rfl) (hf.up (by omega) h3) (jW hn hm (.inl rfl))
 have c2:=Iy (kd:=11) (by omega) (by rfl) ((ha.up (by omega) h1).mono (Nat.le_succ n) (show m≤2*m+1 by omega)) ((hy.up (by omega) h2).mono (Nat.le_succ n) (show m≤2*m+1 by omega)) c1
 exact (mR (kd:=7) (by omega) (by rfl) (ht.mono (show n≤n+1+1 by omega) (show m≤3*(2*m+1)+1 by omega)) c2).mono (by omega) (by omega)
theorem BA {n m:Nat} (hn:1≤n) (hm:1≤m) {t x:Tm} (ht:Fd2 n m t) (h:eB t= .ok x):Fd2 (n+3) (12*m+9) x:=by
 obtain ⟨a',h1,h⟩:=aK h
 obtain ⟨y',h2,h⟩:=aK h
 injection h with h;subst h
 have c1:=Iy (kd:=11) (by omega) (by rfl) (ht.up (by omega) h2) (jW hn hm (.inr rfl)) (jW hn hm (.inl rfl))
 have c2:=mR (kd:=4) (by omega) (by rfl) ((ht.up (by omega) h1).mono (Nat.le_succ n) (show m≤3*m+1 by omega)) c1
 exact (mR (kd:=7) (by omega) (by rfl) (ht.mono (show n≤n+1+1 by omega) (show m≤2*(3*m+1)+1 by omega)) c2).mono (by omega) (by omega)
theorem It {n m:Nat} (hn:1≤n) (hm:1≤m) {t a x:Tm} (ht:Fd2 n m t) (ha:Fd2 n m a) (h:jb t a= .ok x):Fd2 (n+8) (1000*m+1000) x:=by
 obtain ⟨a1,h1,h⟩:=aK h
 obtain ⟨y,h2,h⟩:=aK h
 obtain ⟨t',h3,h⟩:=aK h
 obtain ⟨a',h4,h⟩:=aK h
 obtain ⟨z,h5,h⟩:=aK h
 obtain ⟨c,h6,h⟩:=aK h
 injection h with h;subst h
 have c1:=tk hn hm (ht.up (by omega) h3) (ha.up (by omega) h4) (jW hn hm (.inr rfl)) (jW hn hm (.inl rfl)) h5
 have c2:=BA (by omega) (by omega) c1 h6
 have c3:=mR (kd:=4) (by omega) (by rfl) ((ha.up (by omega) h2).mono (show n≤n+3+3 by omega) (show m≤12*(12*m+9)+9 by omega)) c2
 have c4:=mR (kd:=4) (by omega) (by rfl) ht (ha.up (by omega) h1)
 exact (mR (kd:=7) (by omega) (by rfl) (c4.mono (show n+1≤n+3+3+1 by omega) (show 2*m+1≤2*(12*(12*m+9)+9)+1 by omega)) c3).mono (by omega) (by omega)
end Go.Proofs.YtapmagaejigpnaaGreatDoor
namespace Go.Proofs.YtapmagaejigpnaaGreatDoor
open Go PI
set_option linter.unusedVariables false
set_option linter.unusedSimpArgs false
set_option maxRecDepth 20000
variable {S:Type} {k:Nat}
def dk (l:List Tm) (x:Except Int Tm):Except Int Tm:=if bm l=0 then eD x else .error (bm l)
theorem Fq {l:List Tm} {p:Tm×Int} {x:Except Int Tm} (h0:bm l=0→dq p=x) (hc:bm l≠0→p.2=bm l):eD (dq p)=dk l x:=by
 unfold dk
 by_cases h:bm l=0
 ·rw [if_pos h,h0 h]
 ·rw [if_neg h]
  unfold dq
  rw [hc h,if_neg h];rfl
theorem CB {c:Int} {t a f y:Tm} (h:(dG c t a f y).2=0):c=0:=by
 by_cases hc:c=0
 ·exact hc
 ·rw [oS hc] at h;exact h
theorem HA {c:Int} {t:Tm} (h:(d8 c t).2=0):c=0:=by
 by_cases hc:c=0
 ·exact hc
 ·rw [mD hc] at h;exact h
theorem z8 {p:Tm×Int} (h:p.2=0):dq p= .ok p.1:=if_pos h
theorem aev (hk:F3 k) {t a f y:Tm} (ht:In k t) (ha:In k a) (hf:In k f) (hy:In k y) (ret:Tm×Int→Option S):wK k t a f y ret=ret (tE (dk [t,a,f,y] (dT t a f y))):=by
 have hin: ∀x∈[t,a,f,y],In k x:=fun x hx=>by
  simp at hx
  rcases hx with rfl|rfl|rfl|rfl<;>assumption
 have hfm:bm [t,a,f,y]=0→ ∀x∈[t,a,f,y],Fm x:=fun h=>dW (fun x hx=>(hin x hx).1) h
 simp only [wK,Pe,af hk.fu,aq,qD hk hin (by simp),qB t ht.1 _ ht.2.1,OC hk (fun h=>hfm h a (by simp)) (fun h=>hfm h f (by simp)) (fun h=>hfm h y (by simp))]
 refine (uG hk (t:=(dG (bm [t,a,f,y]) t a f y).1) (fun h=> ?_) ret).trans ?_
 ·have h0:=CB h
  have:=z8 h
  rw [h0,yh] at this
  rw [h0]
  exact (tk (by omega) (by omega) (hfm h0 t (by simp)).f2 (hfm h0 a (by simp)).f2 (hfm h0 f (by simp)).f2 (hfm h0 y (by simp)).f2 this).isIn hk (by omega) (by omega)
 ·exact congrArg (fun z=>ret (tE z)) (Fq (fun h=>by rw [h];exact yh t a f y) fun h=>oS h t a f y)
theorem aeq (hk:F3 k) {t:Tm} (ht:In k t) (ret:Tm×Int→Option S):wI k t ret=ret (tE (dk [t] (eB t))):=by
 have hin: ∀x∈[t],In k x:=fun x hx=>by
  simp at hx
  subst hx;exact ht
 have hfm:bm [t]=0→ ∀x∈[t],Fm x:=fun h=>dW (fun x hx=>(hin x hx).1) h
 simp only [wI,Pc,af hk.fu,aq,qD hk hin (by simp),qB t ht.1 _ ht.2.1,Ou hk (fun h=>hfm h t (by simp))]
 refine (uG hk (t:=(d8 (bm [t]) t).1) (fun h=> ?_) ret).trans ?_
 ·have h0:=HA h
  have:=z8 h
  rw [h0,By] at this
  rw [h0]
  exact (BA (by omega) (by omega) (hfm h0 t (by simp)).f2 this).isIn hk (by omega) (by omega)
 ·exact congrArg (fun z=>ret (tE z)) (Fq (fun h=>by rw [h];exact By t) fun h=>mD h t)
theorem Rk {n m:Nat} {c a b:Int} {t:Tm} (h:Fd2 n m t) (ha:0≤a∧a≤1000000000) (hz:(ba c a b t).2=0):Fd2 n m (ba c a b t).1:=by
 have h0:=gH hz
 subst h0
 rw [iD] at hz ⊢
 cases hx:aD a b t with
 |ok t'=>exact h.up ha hx
 |error e=>
  rw [hx] at hz
  have:=b_ hx
  have hz:e=0:=hz
  omega
theorem aet (hk:F3 k) {t a:Tm} (ht:In k t) (ha:In k a) (hst:ax t≤150) (hsa:ax a≤150) (ret:Tm×Int→Option S):wJ k t a ret=ret (tE (dk [t,a] (jb t a))):=by
 have hin: ∀x∈[t,a],In k x:=fun x hx=>by
  simp at hx
  rcases hx with rfl|rfl<;>assumption
 have hfm:bm [t,a]=0→ ∀x∈[t,a],Fm x:=fun h=>dW (fun x hx=>(hin x hx).1) h
 have ft:bm [t,a]=0→Fd2 150 150 t:=fun h=>⟨ht.1,(hfm h t (by simp)).f2.2.1,by have:=gm t;omega,hst⟩
 have fa:bm [t,a]=0→Fd2 150 150 a:=fun h=>⟨ha.1,(hfm h a (by simp)).f2.2.1,by have:=gm a;omega,hsa⟩
 generalize hc:bm [t,a]=c at ft fa
 have e1: ∀g,co k a 1 0 c g=g (ba c 1 0 a):=fun g=>iz (S:=S) hk (fun h=>(fa h).fm (by omega) (by omega)) (by omega) (by omega) g
 generalize h1:ba c 1 0 a=p1 at e1
 have z1:p1.2=0→c=0:=fun h=>gH (by rw [h1];exact h)
 have e2: ∀g,co k a 1 0 p1.2 g=g (ba p1.2 1 0 a):=fun g=>iz (S:=S) hk (fun h=>(fa (z1 h)).fm (by omega) (by omega)) (by omega) (by omega) g
 generalize h2:ba p1.2 1 0 a=p2 at e2
 have z2:p2.2=0→c=0:=fun h=>z1 (gH (by rw [h2];exact h))
 have e3: ∀g,co k t 2 0 p2.2 g=g (ba p2.2 2 0 t):=fun g=>iz (S:=S) hk (fun h=>(ft (z2 h)).fm (by omega) (by omega)) (by omega) (by omega) g
 have f3:(ba p2.2 2 0 t).2=0→Fd2 150 150 (ba p2.2 2 0 t).1:=fun h=>Rk (ft (z2 (gH h))) (by omega) h
 generalize h3:ba p2.2 2 0 t=p3 at e3 f3
 have z3:p3.2=0→c=0:=fun h=>z2 (gH (by rw [h3];exact h))
 have e4: ∀g,co k a 2 0 p3.2 g=g (ba p3.2 2 0 a):=fun g=>iz (S:=S) hk (fun h=>(fa (z3 h)).fm (by omega) (by omega)) (by omega) (by omega) g
 have f4:(ba p3.2 2 0 a).2=0→Fd2 150 150 (ba p3.2 2 0 a).1:=fun h=>Rk (fa (z3 (gH h))) (by omega) h
 have y4:(ba p3.2 2 0 a).2=0→p3.2=0:=fun h=>gH h
 generalize h4:ba p3.2 2 0 a=p4 at e4 f4 y4
 have e5: ∀g,n_ k p3.1 p4.1 (vN 1) (vN 0) p4.2 g=g (7,0,ByteArray.empty,(dG p4.2 p3.1 p4.1 (vN 1) (vN 0)).1.kids,(dG p4.2 p3.1 p4.1 (vN 1) (vN 0)).2):=
  fun g=>OC (S:=S) hk (fun h=>(f4 h).fm (by omega) (by omega)) (fun _=>fm_v1) (fun _=>fm_v0) g
 have f5:(dG p4.2 p3.1 p4.1 (vN 1) (vN 0)).2=0→Fd2 153 1809 (dG p4.2 p3.1 p4.1 (vN 1) (vN 0)).1:=fun h=>by
  have h0:=CB h
  have:=z8 h
  rw [h0,yh] at this
  rw [h0]
  exact tk (by omega) (by omega) (f3 (y4 h0)) (f4 h0) (jW (by omega) (by omega) (.inr rfl)) (jW (by omega) (by omega) (.inl rfl)) this
 have k5:(dG p4.2 p3.1 p4.1 (vN 1) (vN 0)).1= .mk 7 0 ByteArray.empty [] (dG p4.2 p3.1 p4.1 (vN 1) (vN 0)).1.kids []:=rfl
 have x5:(dG p4.2 p3.1 p4.1 (vN 1) (vN 0)).2=0→c=0:=fun h=>z3 (y4 (CB h))
 generalize h5:dG p4.2 p3.1 p4.1 (vN 1) (vN 0)=p5 at e5 f5 k5 x5
 have e6: ∀g,n9 k (.mk 7 0 ByteArray.empty [] p5.1.kids []) p5.2 g=g (7,0,ByteArray.empty,(d8 p5.2 p5.1).1.kids,(d8 p5.2 p5.1).2):=fun g=>by
  rw [←k5];exact Ou (S:=S) hk (fun h=>(f5 h).fm (by omega) (by omega)) g
 have hM:ld c t a=(aH 7 [aH 4 [t,p1.1],aH 4 [p2.1,(d8 p5.2 p5.1).1]],(d8 p5.2 p5.1).2):=by
  unfold ld
  simp only [h1,h2,h3,h4,h5]
 have k6:(d8 p5.2 p5.1).1= .mk 7 0 ByteArray.empty [] (d8 p5.2 p5.1).1.kids []:=rfl
 simp only [wJ,Pd,af hk.fu,aq,qD hk hin (by simp),hc,qB t ht.1 _ ht.2.1,e1,e2,e3,e4,bt,fz,eR,zV]
 have e5':=e5
 unfold vN at e5'
 simp only [e5',e6,←k6]
 refine Eq.trans (b:=cO k (ld c t a).1 (ld c t a).2 fun r=>ret (r.1,r.2.1)) (by rw [hM];rfl) ?_
 refine (uG hk (fun h=> ?_) ret).trans ?_
 ·have hz:c=0:=x5 (HA (by rw [hM] at h;exact h))
  have:=z8 h
  subst hz
  rw [Iw] at this
  exact (It (by omega) (by omega) (ft rfl) (fa rfl) this).isIn hk (by omega) (by omega)
 ·subst hc
  exact congrArg (fun z=>ret (tE z)) (Fq (fun h=>by rw [h];exact Iw t a) fun h=>Y6 h t a)
end Go.Proofs.YtapmagaejigpnaaGreatDoor
namespace Go.Proofs.YtapmagaejigpnaaGreatDoor
open Go PI
set_option linter.unusedVariables false
set_option linter.unusedSimpArgs false
set_option maxRecDepth 20000
variable {S:Type} {k:Nat}
structure Gd (x:Except Int Tm):Prop where
 en: ∀e,x= .error e→0<e∧e≤1000
 kd: ∀t,x= .ok t→0≤t.kind
theorem gr {t:Tm} (h:0≤t.kind):Gd (.ok t):=⟨fun e h=>(by cases h),fun t' h'=>by injection h' with h';exact h'▸h⟩
theorem cH {a b:Int} {t:Tm} (h:Fm t):Gd (aD a b t):=⟨fun e he=>b_ he,fun t' h'=>by rw [Rj h'];exact h.rows.no.2.2⟩
theorem cV {x:Except Int Tm} {f:Tm→Except Int Tm} (hx:Gd x) (hf: ∀t,x= .ok t→Gd (f t)):Gd (bE x f):=by
 cases hh:x with
 |error e=>exact ⟨fun e' h=>by injection h with h;exact h▸hx.en e hh,fun t h=>by cases h⟩
 |ok t=>exact hf t hh
theorem gZ {kd:Int} (h:0≤kd) (l:List Tm):Gd (.ok (aH kd l)):=gr h
theorem ir (hk:F3 k) {kd:Int} {x y:Except Int Tm} (hx:Gd x) (hy:Gd y) (ret:Tm→Option S):bV k kd (rE x) (rE y) ret=ret (rE (bE x fun a=>bE y fun b=> .ok (aH kd [a,b]))):=
 Ol hk (fun e h=>(hx.en e h).1) hx.kd (fun e h=>(hy.en e h).1) hy.kd ret
theorem Ok (hk:F3 k) {kd:Int} {x y z:Except Int Tm} (hx:Gd x) (hy:Gd y) (hz:Gd z) (ret:Tm→Option S):kT k kd (rE x) (rE y) (rE z) ret=ret (rE (bE x fun a=>bE y fun b=>bE z fun c=> .ok (aH kd [a,b,c]))):=by
 simp only [kT,QU,af hk.fu,aq,oF,zZ]
 have:=Jl hk.fu ret (kd:=kd) (l:=[rE x,rE y,rE z]) (by simp) [rE x,rE y,rE z] [] k rfl (by have:4294968296≤k:=hk;simp;omega)
 refine Eq.trans this ?_
 congr 1
 rw [List.find?_cons,List.find?_cons,List.find?_cons]
 cases x with
 |error e=>rw [show rE (.error e)=bp e from rfl,g6 (hx.en e rfl).1];rfl
 |ok a=>
  rw [show rE (.ok a)=a from rfl,decide_eq_false (by have:=hx.kd a rfl;omega),ao]
  cases y with
  |error e=>rw [show rE (.error e)=bp e from rfl,g6 (hy.en e rfl).1];rfl
  |ok b=>
   rw [show rE (.ok b)=b from rfl,decide_eq_false (by have:=hy.kd b rfl;omega),ao]
   cases z with
   |error e=>rw [show rE (.error e)=bp e from rfl,g6 (hz.en e rfl).1];rfl
   |ok c=>rw [show rE (.ok c)=c from rfl,decide_eq_false (by have:=hz.kd c rfl;omega)];rfl
theorem E1 (hk:F3 k) {x:Except Int Tm} (hx:Gd x) (hf: ∀t,x= .ok t→Fm t) {a b:Int} (ha:0≤a∧a≤1000000000) (hb:0≤b∧b<9223372036854775808) (ret:Tm→Option S):dl k (rE x) a b ret=ret (rE (bE x (aD a b))):=by
 cases hh:x with
 |error e=>
  simp only [dl,GC,aq]
  rw [show rE (.error e)=bp e from rfl,g6 (hx.en e hh).1,ae];rfl
 |ok t=>exact iw hk (hf t hh) ha hb ret
theorem Oe (hk:F3 k) {T A:Except Int Tm} (hT:Gd T) (hA:Gd A) (hA': ∀t,A= .ok t→Fm t) {f y:Tm} (hf:Fm f) (hy:Fm y) (ret:Tm→Option S):
  mJ k (rE T) (rE A) f y ret=ret (rE (bE T fun t=>bE A fun a=>dT t a f y)):=by
 have h6: ∀g:Tm→Option S,bV k 6 (rE (aD 1 0 f)) (.mk 1 0 ByteArray.empty [] [] []) g=g (rE (bE (aD 1 0 f) fun a=> .ok (aH 6 [a,vN 0]))):=fun g=>ir hk (y:= .ok (vN 0)) (cH hf) (gr (by decide)) g
 have h11: ∀g:Tm→Option S,kT k 11 (rE (bE A (aD 1 1))) (rE (aD 1 0 y)) (rE (bE (aD 1 0 f) fun a=> .ok (aH 6 [a,vN 0]))) g=_:=fun g=>Ok hk (cV hA fun t h=>cH (hA' t h)) (cH hy) (cV (cH hf) fun t h=>gZ (by decide) _) g
 have h7: ∀g:Tm→Option S,bV k 7 (rE T) (rE (bE (bE A (aD 1 1)) fun a=>bE (aD 1 0 y) fun b=>bE (bE (aD 1 0 f) fun a=> .ok (aH 6 [a,vN 0])) fun c=> .ok (aH 11 [a,b,c]))) g=_:=
  fun g=>ir hk hT (cV (cV hA fun t h=>cH (hA' t h)) fun _ _=>cV (cH hy) fun _ _=>cV (cV (cH hf) fun t h=>gZ (by decide) _) fun _ _=>gZ (by decide) _) g
 simp only [mJ,QQ,af hk.fu,aq,E1 hk hA hA' (show (0:Int)≤1∧(1:Int)≤1000000000 by omega) (show (0:Int)≤1∧(1:Int)<9223372036854775808 by omega),
  iw hk hy (show (0:Int)≤1∧(1:Int)≤1000000000 by omega) (show (0:Int)≤0∧(0:Int)<9223372036854775808 by omega),iw hk hf (show (0:Int)≤1∧(1:Int)≤1000000000 by omega) (show (0:Int)≤0∧(0:Int)<9223372036854775808 by omega),eS,z6,h6,h11,h7]
 congr 2
 cases T with
 |error e=>rfl
 |ok t=>
  rw [ao,ao]
  cases A with
  |error e=>rfl
  |ok a=>
   rw [ao,ao]
   unfold dT
   cases aD 1 1 a with
   |error e=>rfl
   |ok a'=>
    rw [ao,ao]
    cases aD 1 0 y with
    |error e=>rfl
    |ok y'=>
     rw [ao,ao]
     cases aD 1 0 f with
     |error e=>rfl
     |ok f'=>rfl
theorem Oc (hk:F3 k) {X:Except Int Tm} (hX:Gd X) (hX': ∀t,X= .ok t→Fm t) (ret:Tm→Option S):mI k (rE X) ret=ret (rE (bE X eB)):=by
 have g1:Gd (bE X (aD 1 0)):=cV hX fun t h=>cH (hX' t h)
 have g2:Gd (bE X (aD 2 1)):=cV hX fun t h=>cH (hX' t h)
 have h11: ∀g:Tm→Option S,kT k 11 (rE (bE X (aD 2 1))) (.mk 1 1 ByteArray.empty [] [] []) (.mk 1 0 ByteArray.empty [] [] []) g=g (rE (bE (bE X (aD 2 1)) fun a=> .ok (aH 11 [a,vN 1,vN 0]))):=fun g=>Ok hk (y:= .ok (vN 1)) (z:= .ok (vN 0)) g2 (gr (by decide)) (gr (by decide)) g
 have h4: ∀g:Tm→Option S,bV k 4 (rE (bE X (aD 1 0))) (rE (bE (bE X (aD 2 1)) fun a=> .ok (aH 11 [a,vN 1,vN 0]))) g=_:=fun g=>ir hk g1 (cV g2 fun _ _=>gZ (by decide) _) g
 have h7: ∀g:Tm→Option S,bV k 7 (rE X) (rE (bE (bE X (aD 1 0)) fun a=>bE (bE (bE X (aD 2 1)) fun a=> .ok (aH 11 [a,vN 1,vN 0])) fun b=> .ok (aH 4 [a,b]))) g=_:=
  fun g=>ir hk hX (cV g1 fun _ _=>cV (cV g2 fun _ _=>gZ (by decide) _) fun _ _=>gZ (by decide) _) g
 simp only [mI,QK,af hk.fu,aq,E1 hk hX hX' (show (0:Int)≤1∧(1:Int)≤1000000000 by omega) (show (0:Int)≤0∧(0:Int)<9223372036854775808 by omega),
  E1 hk hX hX' (show (0:Int)≤2∧(2:Int)≤1000000000 by omega) (show (0:Int)≤1∧(1:Int)<9223372036854775808 by omega),eS,z6,h11,h4,h7]
 congr 2
 cases X with
 |error e=>rfl
 |ok t=>
  rw [ao,ao,ao,ao]
  unfold eB
  cases aD 1 0 t with
  |error e=>rfl
  |ok a'=>
   rw [ao,ao]
   cases aD 2 1 t with
   |error e=>rfl
   |ok y'=>rfl
theorem aeu (hk:F3 k) {t a:Tm} (ht:Fd2 150 150 t) (ha:Fd2 150 150 a) (ret:Tm→Option S):sS k t a ret=ret (rE (jb t a)):=by
 have fmt:=ht.fm (by omega) (by omega)
 have fma:=ha.fm (by omega) (by omega)
 have gX:Gd (bE (aD 2 0 t) fun t'=>bE (aD 2 0 a) fun a'=>dT t' a' (vN 1) (vN 0)):=cV (cH fmt) fun _ _=>cV (cH fma) fun _ h=>by
  have hh:=qJ (by omega) fma h
  exact cV (cH hh) fun _ _=>cV (cH fm_v0) fun _ _=>cV (cH fm_v1) fun _ _=>gZ (by decide) _
 have fX: ∀x,(bE (aD 2 0 t) fun t'=>bE (aD 2 0 a) fun a'=>dT t' a' (vN 1) (vN 0))= .ok x→Fd2 153 1809 x:=fun x h=>by
  obtain ⟨t',h1,h⟩:=aK h
  obtain ⟨a',h2,h⟩:=aK h
  exact tk (by omega) (by omega) (ht.up (by omega) h1) (ha.up (by omega) h2) (jW (by omega) (by omega) (.inr rfl)) (jW (by omega) (by omega) (.inl rfl)) h
 have hF: ∀g:Tm→Option S,mJ k (rE (aD 2 0 t)) (rE (aD 2 0 a)) (.mk 1 1 ByteArray.empty [] [] []) (.mk 1 0 ByteArray.empty [] [] []) g=_:=fun g=>Oe hk (cH fmt) (cH fma) (fun _ h=>qJ (by omega) fma h) fm_v1 fm_v0 g
 have hC: ∀g:Tm→Option S,mI k (rE (bE (aD 2 0 t) fun t'=>bE (aD 2 0 a) fun a'=>dT t' a' (vN 1) (vN 0))) g=_:=fun g=>Oc hk gX (fun x h=>(fX x h).fm (by omega) (by omega)) g
 have gC:Gd (bE (bE (aD 2 0 t) fun t'=>bE (aD 2 0 a) fun a'=>dT t' a' (vN 1) (vN 0)) eB):=cV gX fun x h=>by
  have hh:=(fX x h).fm (by omega) (by omega)
  exact cV (cH hh) fun _ _=>cV (cH hh) fun _ _=>gZ (by decide) _
 have h4: ∀g:Tm→Option S,bV k 4 t (rE (aD 1 0 a)) g=g (rE (bE (aD 1 0 a) fun b=> .ok (aH 4 [t,b]))):=fun g=>ir hk (x:= .ok t) (gr fmt.rows.no.2.2) (cH fma) g
 have h4': ∀g:Tm→Option S,bV k 4 (rE (aD 1 0 a)) (rE (bE (bE (aD 2 0 t) fun t'=>bE (aD 2 0 a) fun a'=>dT t' a' (vN 1) (vN 0)) eB)) g=_:=fun g=>ir hk (cH fma) gC g
 have h7: ∀g:Tm→Option S,bV k 7 (rE (bE (aD 1 0 a) fun b=> .ok (aH 4 [t,b]))) (rE (bE (aD 1 0 a) fun x=>bE (bE (bE (aD 2 0 t) fun t'=>bE (aD 2 0 a) fun a'=>dT t' a' (vN 1) (vN 0)) eB) fun b=> .ok (aH 4 [x,b]))) g=_:=
  fun g=>ir hk (cV (cH fma) fun _ _=>gZ (by decide) _) (cV (cH fma) fun _ _=>cV gC fun _ _=>gZ (by decide) _) g
 simp only [sS,QN,af hk.fu,aq,iw hk fma (show (0:Int)≤1∧(1:Int)≤1000000000 by omega) (show (0:Int)≤0∧(0:Int)<9223372036854775808 by omega),
  iw hk fmt (show (0:Int)≤2∧(2:Int)≤1000000000 by omega) (show (0:Int)≤0∧(0:Int)<9223372036854775808 by omega),iw hk fma (show (0:Int)≤2∧(2:Int)≤1000000000 by omega) (show (0:Int)≤0∧(0:Int)<9223372036854775808 by omega),
  eS,z6,h4,hF,hC,h4',h7]
 congr 2
 unfold jb
 cases aD 1 0 a with
 |error e=>rfl
 |ok a1=>
  simp only [ao]
  cases aD 2 0 t with
  |error e=>rfl
  |ok t'=>
   simp only [ao]
   cases aD 2 0 a with
   |error e=>rfl
   |ok a'=>
    simp only [ao]
    cases dT t' a' (vN 1) (vN 0) with
    |error e=>rfl
    |ok x=>
     simp only [ao]
     cases eB x with
     |error e=>rfl
     |ok c=>rfl
theorem uL (hk:F3 k) {l:List Tm} {x:Except Int Tm} (hl: ∀t∈l,In k t) (hlen:l.length<1000) {F:(Tm→Option S)→Option S} (hF:bm l=0→ ∀g,F g=g (rE x)) (hx:bm l=0→(∀e,x= .error e→0<e∧e≤1000)∧ ∀t,x= .ok t→In k t∧0≤t.kind) (ret:Tm×Int→Option S):
  (gV k l fun r1=>ab (!(r1==0)) (ret (aN,r1)) (F fun r2=>gU k r2 fun r3=>ret (r3.1,r3.2)))=ret (tE (dk l x)):=by
 rw [E0 hk hl hlen,aY]
 unfold dk
 by_cases h0:bm l=0
 ·rw [decide_eq_true h0,Bool.not_true,ad,hF h0,EY hk (hx h0).1 (hx h0).2,if_pos h0,Cy]
 ·rw [decide_eq_false h0,Bool.not_false,ae,if_neg h0];rfl
theorem uO (hk:F3 k) {l:List Tm} {x:Except Int Tm} (hx:bm l=0→ ∀t,x= .ok t→In k t):In k (tE (dk l x)).1:=by
 unfold dk
 by_cases h0:bm l=0
 ·rw [if_pos h0]
  unfold eD
  cases hh:x with
  |error e=>exact jk hk
  |ok t=>
   rw [ao]
   split
   ·exact hx h0 t hh
   ·exact jk hk
 ·rw [if_neg h0];exact jk hk
theorem IA (hk:F3 k) {t a f y:Tm} (ht:Fm t) (ha:Fm a) (hf:Fm f) (hy:Fm y):(∀e,dT t a f y= .error e→0<e∧e≤1000)∧ ∀x,dT t a f y= .ok x→In k x∧0≤x.kind:=
 ⟨fun e h=>Iz h,fun x h=>⟨(tk (by omega) (by omega) ht.f2 ha.f2 hf.f2 hy.f2 h).isIn hk (by omega) (by omega),by
  obtain ⟨_,_,h⟩:=aK h
  obtain ⟨_,_,h⟩:=aK h
  obtain ⟨_,_,h⟩:=aK h
  injection h with h;subst h;exact (by decide:(0:Int)≤7)⟩⟩
theorem HC (hk:F3 k) {t:Tm} (ht:Fm t):(∀e,eB t= .error e→0<e∧e≤1000)∧ ∀x,eB t= .ok x→In k x∧0≤x.kind:=
 ⟨fun e h=>HB h,fun x h=>⟨(BA (by omega) (by omega) ht.f2 h).isIn hk (by omega) (by omega),by
  obtain ⟨_,_,h⟩:=aK h
  obtain ⟨_,_,h⟩:=aK h
  injection h with h;subst h;exact (by decide:(0:Int)≤7)⟩⟩
theorem Iu (hk:F3 k) {t a:Tm} (ht:Fd2 150 150 t) (ha:Fd2 150 150 a):(∀e,jb t a= .error e→0<e∧e≤1000)∧ ∀x,jb t a= .ok x→In k x∧0≤x.kind:=by
 refine ⟨fun e h=> ?_,fun x h=>⟨(It (by omega) (by omega) ht ha h).isIn hk (by omega) (by omega), ?_⟩⟩
 ·rcases a_ h with h|⟨_,_,h⟩
  ·exact b_ h
  rcases a_ h with h|⟨_,_,h⟩
  ·exact b_ h
  rcases a_ h with h|⟨_,_,h⟩
  ·exact b_ h
  rcases a_ h with h|⟨_,_,h⟩
  ·exact b_ h
  rcases a_ h with h|⟨_,_,h⟩
  ·exact Iz h
  rcases a_ h with h|⟨_,_,h⟩
  ·exact HB h
  ·cases h
 ·obtain ⟨_,_,h⟩:=aK h
  obtain ⟨_,_,h⟩:=aK h
  obtain ⟨_,_,h⟩:=aK h
  obtain ⟨_,_,h⟩:=aK h
  obtain ⟨_,_,h⟩:=aK h
  obtain ⟨_,_,h⟩:=aK h
  injection h with h;subst h;exact (by decide:(0:Int)≤7)
def yT (r:List Cl):Tm:= .mk 13 0 ByteArray.empty r [aH 10 [vN 0],vN 1,aH 9 [vN 0]] []
def lk:List Tm:=[aH 5 [vN 0],aH 5 [aH 8 [aH 8 [vN 0,aH 12 [vN 0]],aH 5 [aH 12 [aH 8 [yT [⟨1,0⟩],aH 12 [yT [⟨3,0⟩]]]]]]]]
theorem Zz (q:Nat) (ret:Int×Int×ByteArray×List Tm→Option S):sc (q+100) ret=ret (8,0,ByteArray.empty,lk):=by kernel_rfl
theorem aea (q:Nat) (ret:Tm→Option S):xK (q+100) ret=ret (aH 8 lk):=by kernel_rfl
theorem Y_:cG (aH 8 lk)=0:=by kernel_rfl
theorem afk (hk:F3 k) {t a f y:Tm} (ht:In k t) (ha:In k a) (hf:In k f) (hy:In k y) (ret:Tm×Int→Option S):xH k t a f y ret=ret (tE (dk [t,a,f,y] (dT t a f y))):=by
 have hin: ∀x∈[t,a,f,y],In k x:=fun x hx=>by
  simp at hx
  rcases hx with rfl|rfl|rfl|rfl<;>assumption
 have hfm:bm [t,a,f,y]=0→ ∀x∈[t,a,f,y],Fm x:=fun h=>dW (fun x hx=>(hin x hx).1) h
 simp only [xH,QP,af hk.fu,aq]
 exact uL hk hin (by simp) (F:=mJ k t a f y) (fun h g=>Oe hk (T:= .ok t) (A:= .ok a) (gr (hfm h t (by simp)).rows.no.2.2) (gr (hfm h a (by simp)).rows.no.2.2) (fun x hx=>by injection hx with hx;exact hx▸hfm h a (by simp)) (hfm h f (by simp)) (hfm h y (by simp)) g)
  (fun h=>IA hk (hfm h t (by simp)) (hfm h a (by simp)) (hfm h f (by simp)) (hfm h y (by simp))) ret
theorem afh (hk:F3 k) {t:Tm} (ht:In k t) (ret:Tm×Int→Option S):xF k t ret=ret (tE (dk [t] (eB t))):=by
 have hin: ∀x∈[t],In k x:=fun x hx=>by
  simp at hx
  subst hx;exact ht
 have hfm:bm [t]=0→ ∀x∈[t],Fm x:=fun h=>dW (fun x hx=>(hin x hx).1) h
 simp only [xF,QJ,af hk.fu,aq]
 exact uL hk hin (by simp) (F:=mI k t) (fun h g=>Oc hk (X:= .ok t) (gr (hfm h t (by simp)).rows.no.2.2) (fun x hx=>by injection hx with hx;exact hx▸hfm h t (by simp)) g) (fun h=>HC hk (hfm h t (by simp))) ret
theorem afj (hk:F3 k) {t a:Tm} (ht:In k t) (ha:In k a) (hst:ax t≤150) (hsa:ax a≤150) (ret:Tm×Int→Option S):xG k t a ret=ret (tE (dk [t,a] (jb t a))):=by
 have hin: ∀x∈[t,a],In k x:=fun x hx=>by
  simp at hx
  rcases hx with rfl|rfl<;>assumption
 have hfm:bm [t,a]=0→ ∀x∈[t,a],Fm x:=fun h=>dW (fun x hx=>(hin x hx).1) h
 have ft:bm [t,a]=0→Fd2 150 150 t:=fun h=>⟨ht.1,(hfm h t (by simp)).f2.2.1,by have:=gm t;omega,hst⟩
 have fa:bm [t,a]=0→Fd2 150 150 a:=fun h=>⟨ha.1,(hfm h a (by simp)).f2.2.1,by have:=gm a;omega,hsa⟩
 simp only [xG,QM,af hk.fu,aq]
 exact uL hk hin (by simp) (F:=sS k t a) (fun h g=>aeu hk (ft h) (fa h) g) (fun h=>Iu hk (ft h) (fa h)) ret
theorem ahC (hk:F3 k) {t u f y:Tm} (ht:In k t) (hu:In k u) (hf:In k f) (hy:In k y) (ret:Bool→Option S):BW k t u f y ret=ret true:=by
 have e0:OkT (.mk 0 0 ByteArray.empty [] [] []):=(jk hk).1
 have d0:Fd k (ar (.mk 0 0 ByteArray.empty [] [] [])):=(jk hk).2.1
 have hw: ∀g:Bool→Option S,fF k g=g true:=fun g=>Fh hk g
 simp only [BW,P1,af hk.fu,aq,hw]
 obtain ⟨c,hc,hs⟩:=E6 (S:=S) hk.fu ht.1 ht.2.1 hu.1 hu.2.1 e0 d0 _
 refine Eq.trans hc ?_
 cases c with
 |true=>rfl
 |false=>
  obtain ⟨s1,s2,_⟩:=hs rfl
  rw [ad]
  obtain ⟨c',hc',hs'⟩:=E6 (S:=S) hk.fu hf.1 hf.2.1 hy.1 hy.2.1 e0 d0 _
  refine Eq.trans hc' ?_
  cases c' with
  |true=>rfl
  |false=>
   rw [ad]
   have i1:In k (tE (dk [t,u,f,y] (dT t u f y))).1:=uO hk fun h x hx=>by
    have hfm:=dW (l:=[t,u,f,y]) (fun x hx=>by
     simp at hx
     rcases hx with rfl|rfl|rfl|rfl
     ·exact ht.1
     ·exact hu.1
     ·exact hf.1
     ·exact hy.1) h
    exact ((IA hk (hfm t (by simp)) (hfm u (by simp)) (hfm f (by simp)) (hfm y (by simp))).2 x hx).1
   have i2:In k (tE (dk [t] (eB t))).1:=uO hk fun h x hx=>by
    have hfm:=dW (l:=[t]) (fun x hx=>by
     simp at hx
     subst hx;exact ht.1) h
    exact ((HC hk (hfm t (by simp))).2 x hx).1
   have i3:In k (tE (dk [t,u] (jb t u))).1:=uO hk fun h x hx=>by
    have hfm:=dW (l:=[t,u]) (fun x hx=>by
     simp at hx
     rcases hx with rfl|rfl
     ·exact ht.1
     ·exact hu.1) h
    exact ((Iu hk ⟨ht.1,(hfm t (by simp)).f2.2.1,by have:=gm t;omega,s1⟩ ⟨hu.1,(hfm u (by simp)).f2.2.1,by have:=gm u;omega,s2⟩).2 x hx).1
   have hsame: ∀ {z:Tm} {e:Int},In k z→ ∀g:Bool→Option S,gg k z e z e g=g true:=fun hz g=>zL hk hz _ g
   obtain ⟨q,hq⟩: ∃q,k=q+100:=⟨k-100,by have:4294968296≤k:=hk;omega⟩
   have j1: ∀g:Int×Int×ByteArray×List Tm→Option S,sc k g=g (8,0,ByteArray.empty,lk):=fun g=>by rw [hq];exact Zz q g
   have j2: ∀g:Tm→Option S,xK k g=g (aH 8 lk):=fun g=>by rw [hq];exact aea q g
   have fmI:OkT (aH 8 lk):=by
    have hp: ∀n,0≤n∧n≤3→OkT (yT [⟨n,0⟩]):=fun n hn=>by
     unfold yT
     rw [OkT,okK_iff,bu]
     refine ⟨⟨by unfold aF;omega,by unfold aF;omega,by show 0<_;omega,fun c hc=> ?_,by simp,by simp,by simp⟩,fun x hx=> ?_,trivial⟩
     ·simp at hc;subst hc;exact ⟨⟨hn.1,by show n<_;omega⟩,⟨Int.le_refl 0,by show (0:Int)<_;omega⟩⟩
     ·simp at hx
      rcases hx with rfl|rfl|rfl
      ·exact lS (by omega) (by simp) fun x hx=>by simp at hx;subst hx;exact pZ 0 (by omega)
      ·exact pZ 1 (by omega)
      ·exact lS (by omega) (by simp) fun x hx=>by simp at hx;subst hx;exact pZ 0 (by omega)
    have o1: ∀ {kd:Int} {x:Tm},0≤kd∧kd≤28→OkT x→OkT (aH kd [x]):=fun h hx=>lS h (by simp) fun y hy=>by simp at hy;subst hy;exact hx
    have o2: ∀ {kd:Int} {x z:Tm},0≤kd∧kd≤28→OkT x→OkT z→OkT (aH kd [x,z]):=fun h hx hz=>lS h (by simp) fun y hy=>by
     simp at hy
     rcases hy with rfl|rfl<;>assumption
    have v0:=pZ 0 (by omega)
    exact o2 (by omega) (o1 (by omega) v0) (o1 (by omega) (o2 (by omega) (o2 (by omega) v0 (o1 (by omega) v0)) (o1 (by omega) (o1 (by omega) (o2 (by omega) (hp 1 (by omega)) (o1 (by omega) (hp 3 (by omega))))))))
   have dI:Fd k (ar (aH 8 lk)):=hk.fd (Nat.le_trans (jX Y_).1 (by omega))
   simp only [aev hk ht hu hf hy,afk hk ht hu hf hy,hsame i1,Bool.not_true,ad,aeq hk ht,afh hk ht,hsame i2,aet hk ht hu s1 s2,afj hk ht hu s1 s2,hsame i3,ae,j1,j2]
   exact (Fe (S:=S) (aH 8 lk) fmI (k:=k) _ dI).trans rfl
end Go.Proofs.YtapmagaejigpnaaGreatDoor
namespace Go.Proofs.YtapmagaejigpnaaGreatDoor
open Go PI
set_option linter.unusedVariables false
set_option linter.unusedSimpArgs false
set_option maxRecDepth 20000
variable {S:Type} {k:Nat}
section
variable {hd:Tm→(Tm→Option S)→Option S} {t:Tm}
theorem abC (hk:Fu k) (ret:Tm→Option S) (rec1:List (Br Tm)→Int→Option S) {ks:List Tm} {acc:List (Br Tm)} {x:Br Tm} {i:Int} (hi:al t.sys i=some x) (hQ: ∀y∈x.kids,∀g,hd y g=g y) (hl:x.kids.length<1073741824) (hacc:acc.length<1073741824):
  ∀ (r p:List Tm) (m:Nat),x.kids=p++r→r.length<m→lL hd k ret rec1 t ks acc x i m p (p.length:Int)=rec1 (acc++[x]) (IntKind.wrap .i64 (i+1)):=by
 intro r
 induction r with
 |nil=>
  intro p m h hm
  obtain ⟨m,rfl,hm'⟩:=ak hm
  simp only [lL,wc,hi,Option.bind_some,aA h,ad]
  rw [aO (by simp;omega)]
  have:p=x.kids:=by rw [h,List.append_nil]
  subst this
  cases x;rfl
 |cons y r ih=>
  intro p m h hm
  obtain ⟨m,rfl,hm'⟩:=ak hm
  obtain ⟨e1,e2,e3,e4⟩:=az h (by omega)
  have hlen:p.length+r.length+1=x.kids.length:=by rw [h];simp;omega
  simp only [lL,wc,hi,e1,ae,e2,Option.bind_some,aq,e3,hQ y (by rw [h];simp)]
  rw [aO (by simp;omega)]
  exact ih (p++[y]) m e4 hm'
theorem abB (hk:Fu k) (ret:Tm→Option S) (ht:OkT t) (hQ: ∀b∈t.sys,∀y∈b.kids,∀g,hd y g=g y) {ks:List Tm}:
  ∀ (r p:List (Br Tm)) (m:Nat),t.sys=p++r→r.length<m→jg hd k ret t ks m p (p.length:Int)=ret (.mk t.kind t.n t.name t.r ks t.sys):=by
 obtain ⟨o1,o2,o3,o4,o5,o6,o7⟩:=ht.no
 intro r
 induction r with
 |nil=>
  intro p m h hm
  obtain ⟨m,rfl,hm'⟩:=ak hm
  simp only [jg,rD,aA h,ad]
  rw [h,List.append_nil,List.nil_append]
 |cons y r ih=>
  intro p m h hm
  obtain ⟨m,rfl,hm'⟩:=ak hm
  obtain ⟨e1,e2,e3,e4⟩:=az h (by omega)
  have hy:y∈t.sys:=by rw [h];simp
  have hb:=(ht.bi hy).1
  have hlen:p.length+r.length+1=t.sys.length:=by rw [h];simp;omega
  simp only [jg,rD,e1,ae,e2,Option.bind_some]
  rw [aO (by simp;omega)]
  have:=abC (t:=t) hk ret (jg hd k ret t ks m) (ks:=ks) (acc:=p) e2 (hQ y hy) hb.2.2 (by omega) y.kids [] k rfl (by have:4294967296≤k:=hk;omega)
  have this:lL hd k ret (jg hd k ret t ks m) t ks p y (p.length:Int) k [] 0=_:=this
  rw [this,e3]
  exact ih (p++[y]) m e4 hm'
theorem abA (hk:Fu k) (ret:Tm→Option S) (ht:OkT t) (hQ: ∀y∈t.kids,∀g,hd y g=g y) (hQ': ∀b∈t.sys,∀y∈b.kids,∀g,hd y g=g y):
  ∀ (r p:List Tm) (m:Nat),t.kids=p++r→r.length<m→pC hd k ret t m p (p.length:Int)=ret t:=by
 obtain ⟨o1,o2,o3,o4,o5,o6,o7⟩:=ht.no
 intro r
 induction r with
 |nil=>
  intro p m h hm
  obtain ⟨m,rfl,hm'⟩:=ak hm
  simp only [pC,rC,aA h,ad]
  have:=abB hk ret ht hQ' (ks:=p) t.sys [] k rfl (by have:4294967296≤k:=hk;omega)
  refine Eq.trans this ?_
  have hp:p=t.kids:=by rw [h,List.append_nil]
  subst hp
  cases t;rfl
 |cons y r ih=>
  intro p m h hm
  obtain ⟨m,rfl,hm'⟩:=ak hm
  obtain ⟨e1,e2,e3,e4⟩:=az h (by omega)
  have hlen:p.length+r.length+1=t.kids.length:=by rw [h];simp;omega
  simp only [pC,rC,e1,ae,e2,Option.bind_some,aq,e3,hQ y (by rw [h];simp)]
  rw [aO (by simp;omega)]
  exact ih (p++[y]) m e4 hm'
end
theorem Fa (t:Tm):OkT t→ ∀ {k:Nat} (ret:Tm→Option S),Fd k (ar t)→gj k t ret=ret t:=by
 induction t using d4 with
 |h t ih1 ih2=>
  intro ht k ret hk
  obtain ⟨q,rfl,hq,hf⟩:=hk.pos' (cS t)
  obtain ⟨o1,o2,o3,o4,o5,o6,o7⟩:=ht.no
  simp only [gj,Gw]
  rw [aO (by simp;omega)]
  exact abA hq ret ht (fun y hy g=>ih1 y hy (ht.ki hy) g (hf _ (cR hy))) (fun b hb y hy g=>ih2 b hb y hy ((ht.bi hb).2 y hy) g (hf _ (cQ hb hy))) t.kids [] q rfl (by have:4294967296≤q:=hq;omega)
def bj (sys:List (Br Tm)):Tm:= .mk 15 0 ByteArray.empty [] [.mk 3 0 ByteArray.empty [] [] [],.mk 3 0 ByteArray.empty [] [] []] sys
theorem OZ (hk:Fu k) (sys:List (Br Tm)) (ret:Int×Int×ByteArray×List Tm×List (Br Tm)→Option S):oa k sys ret=ret (15,0,ByteArray.empty,[.mk 3 0 ByteArray.empty [] [] [],.mk 3 0 ByteArray.empty [] [] []],sys):=by
 simp only [oa,Pl,af hk,bt,fz]
theorem Og (hk:Fu k) (sys:List (Br Tm)) (ret:Tm→Option S):sP k 15 sys ret=ret (bj sys):=by
 obtain ⟨q,hq⟩: ∃q,k=q+3:=⟨k-3,by have:4294967296≤k:=hk;omega⟩
 have h2:ef 15=2:=by rfl
 have hj:pH k ret 15 sys k [] 0=ret (bj sys):=by
  have: ∀j,j=q+3→pH k ret 15 sys j [] 0=ret (bj sys):=by
   rintro j rfl
   simp only [pH,Bm,af hk,OQ,h2,show decide ((0:Int)<2)=true from rfl,ae]
   rw [aO (by simp)]
   simp only [show decide (IntKind.wrap .i64 (0+1)<(2:Int))=true by decide,ae]
   rw [aO (by simp)]
   simp only [show decide (IntKind.wrap .i64 (IntKind.wrap .i64 (0+1)+1)<(2:Int))=false by decide,ad]
   rfl
  exact this k hq
 simp only [sP,GG]
 exact hj
end Go.Proofs.YtapmagaejigpnaaGreatDoor
namespace Go.Proofs.YtapmagaejigpnaaGreatDoor
open Go PI
set_option linter.unusedVariables false
set_option linter.unusedSimpArgs false
set_option maxRecDepth 20000
variable {S:Type} {k:Nat}
def bG (b:Br Tm):Tm:=b.kids.headD aN
structure SyF (sys:List (Br Tm)):Prop where
 kid: ∀b∈sys,b.kids=[bG b]∧Fm (bG b)∧am b.face∧b.face.length<1073741824
 len:sys.length≤20000
 siz:aI sys≤20000
theorem mf {sys:List (Br Tm)} (h:Fm (bj sys)):SyF sys:=by
 obtain ⟨h1,h2,h3⟩:=jX h.2
 have hz:ax (bj sys)=3+aI sys:=by unfold bj;rw [ax,aw,aw,aw,ax,aw,aI]
 have hd:bh sys+1≤ar (bj sys):=by unfold bj;rw [ar];omega
 unfold bj at h3
 rw [bz] at h3
 simp only [Bool.and_eq_true] at h3
 obtain ⟨_,ho,_,hS⟩:=h3
 have ho:(sys.all (cF 15 24)&&decide (([]:List Cl).length=0))=true:=by
  rw [eo] at ho
  simp only [Bool.and_eq_true] at ho
  exact (Bool.and_eq_true _ _).symm▸ho.2
 simp only [Bool.and_eq_true] at ho
 have hb:=List.all_eq_true.1 ho.1
 rw [u9,List.all_eq_true] at hS
 have hk: ∀b∈sys,b.kids=[bG b]∧Fm (bG b)∧am b.face∧b.face.length<1073741824:=by
  intro b hb'
  have h1':=hb b hb'
  unfold cF at h1'
  simp only [Bool.and_eq_true,decide_eq_true_eq] at h1'
  have hl:b.kids.length=1:=by have:=h1'.1;rw [show ck 15=1 from rfl] at this;omega
  have hok:=h.1.br (by exact hb':b∈sys)
  match hb2:b.kids,hl with
  |[x],_=>
   have hx:bG b=x:=by unfold bG;rw [hb2];rfl
   have hmem:x∈b.kids:=by rw [hb2];simp
   rw [hx]
   refine ⟨rfl,⟨hok.2 x hmem,CD ?_ ?_ ?_⟩,hok.1.1,hok.1.2.1⟩
   ·have:=B8 hmem;have:=HI hb';omega
   ·have:=uN hmem;have:=Fl hb';omega
   ·have:=List.all_eq_true.1 (hS b hb') x hmem
    rw [←this]
    exact Bb x (by omega) (by decide)
 have hlen: ∀l:List (Br Tm),(∀b∈l,b.kids=[bG b])→l.length≤aI l:=by
  intro l
  induction l with
  |nil=>intro _;simp
  |cons b l ih=>
   intro hl
   rw [aI,kz,hl b (by simp),aw,aw,List.length_cons]
   have:=ih fun b hb=>hl b (by simp [hb])
   have:=Fp (bG b)
   omega
 exact ⟨hk,by have:=hlen sys fun b hb=>(hk b hb).1;omega,by omega⟩
def gP (line:Tm):List (Br Tm)→Except Int (List (Br Tm))
 |[]=> .ok []
 |b::r=>bE (cA [⟨1,0⟩,⟨2,0⟩] line) fun u=>bE (gP line r) fun l=> .ok (.mk b.face [.mk 14 0 ByteArray.empty [⟨1,0⟩] [u,bG b] []]::l)
def iN (line a:Tm) (sys:List (Br Tm)):Except Int Tm:=bE (eL 0 [⟨0,0⟩] line) fun l1=>bE (gP line sys) fun l=> .ok (.mk 15 0 ByteArray.empty [] [l1,aH 14 [line,a]] l)
theorem NJ:RF [⟨1,0⟩,⟨2,0⟩]:=by
 refine ⟨by rfl,fun c hc=> ?_⟩
 simp only [List.mem_cons,List.not_mem_nil,or_false] at hc
 rcases hc with rfl|rfl
 ·exact ⟨⟨by decide,by decide⟩,by decide,by decide⟩
 ·exact ⟨⟨by decide,by decide⟩,by decide,by decide⟩
theorem NI:RF [⟨0,0⟩]:=gz ⟨⟨by decide,by decide⟩,by decide,by decide⟩
theorem acN:am [⟨1,0⟩]:=fun c hc=>by simp at hc;subst hc;exact uf
theorem agc {r:List Cl} {t y:Tm} (ht:Fm t) (h:eL 0 r t= .ok y):OkT y∧ar y≤200∧ax y≤20000:=by
 obtain ⟨w1,w2,w3,w4⟩:=Q9 h
 have h4:=w4 ht.ok ht.rows
 have:=ht.dep;have:=ht.siz
 exact ⟨h4.1,by omega,by omega⟩
theorem WR {line:Tm}: ∀ {r:List (Br Tm)} {e:Int},gP line r= .error e→0<e∧e≤1000:=by
 intro r
 induction r with
 |nil=>intro e h;cases h
 |cons b r ih=>
  intro e h
  rcases a_ h with h|⟨_,_,h⟩
  ·exact fZ h
  rcases a_ h with h|⟨_,_,h⟩
  ·exact ih h
  ·cases h
theorem WQ {line a:Tm} {sys:List (Br Tm)} {e:Int} (h:iN line a sys= .error e):0<e∧e≤1000:=by
 rcases a_ h with h|⟨_,_,h⟩
 ·exact uU h
 rcases a_ h with h|⟨_,_,h⟩
 ·exact WR h
 ·cases h
theorem WS {line:Tm} (hl:Fm line): ∀ {r l:List (Br Tm)},(∀b∈r,b.kids=[bG b]∧Fm (bG b)∧am b.face∧b.face.length<1073741824)→gP line r= .ok l→bu l∧bh l≤201∧aI l≤r.length*20001+aI r∧l.length=r.length:=by
 intro r
 induction r with
 |nil=>
  intro l _ h
  injection h with h;subst h
  rw [bu,bh,aI]
  exact ⟨trivial,by omega,by omega,rfl⟩
 |cons b r ih=>
  intro l hr h
  obtain ⟨u,h1,h⟩:=aK h
  obtain ⟨l',h2,h⟩:=aK h
  injection h with h;subst h
  obtain ⟨b1,b2,b3,b4⟩:=hr b (by simp)
  obtain ⟨i1,i2,i3,i4⟩:=ih (fun b hb=>hr b (by simp [hb])) h2
  obtain ⟨a1,a2,a3,a4⟩:=Bf hl h1
  have:=b2.dep
  refine ⟨?_, ?_, ?_,by simp [i4]⟩
  ·rw [bu,kI,bw,bw,OkT,bw,bw,bw,bu]
   refine ⟨⟨⟨b3,b4,by simp⟩,⟨⟨by unfold aF;omega,by unfold aF;omega,by show 0<_;omega,acN,by simp,by simp,by simp⟩,⟨a1,b2.ok,trivial⟩,trivial⟩,trivial⟩,i1⟩
  ·rw [bh,kY,aP,aP,ar,aP,aP,aP,bh];omega
  ·rw [aI,iA,aw,aw,ax,aw,aw,aw,aI,aI,kz,b1,aw,aw,List.length_cons,Nat.add_mul];omega
theorem Bx (hk:F3 k) {line a:Tm} {sys:List (Br Tm)} (hl:Fm line) (ha:Fm a) (hs:SyF sys) {t:Tm} (h:iN line a sys= .ok t):In k t∧0≤t.kind:=by
 obtain ⟨l1,h1,h⟩:=aK h
 obtain ⟨l,h2,h⟩:=aK h
 injection h with h;subst h
 obtain ⟨a1,a2,a3⟩:=agc hl h1
 obtain ⟨i1,i2,i3,i4⟩:=WS hl hs.kid h2
 have:=hs.len;have:=hs.siz;have:=hl.dep;have:=ha.dep;have:=hl.siz;have:=ha.siz
 have hm:sys.length*20001≤20000*20001:=Nat.mul_le_mul_right _ hs.len
 refine ⟨⟨?_,hk.fd ?_, ?_⟩,(by decide:(0:Int)≤15)⟩
 ·rw [OkT,bw,bw,bw]
  exact ⟨⟨by unfold aF;omega,by unfold aF;omega,by show 0<_;omega,fun c hc=>(by cases hc),by simp,by simp,by omega⟩,⟨a1,lS (by omega) (by simp) fun x hx=>by
   simp at hx
   rcases hx with rfl|rfl
   ·exact hl.ok
   ·exact ha.ok,trivial⟩,i1⟩
 ·unfold aH;rw [ar,aP,aP,aP,ar,aP,aP,aP,bh];omega
 ·unfold aH;rw [ax,aw,aw,aw,ax,aw,aw,aw,aI];omega
theorem aeK (hk:F3 k) {c:Int} {t:Tm} (h:c=0→Fm t) (ret:Tm×Int→Option S):wL k t c ret=ret (if c=0 then tE (eL 0 [⟨0,0⟩] t) else (aN,c)):=by
 simp only [wL,Pj,af hk.fu,cr,eK,aY,sx,FU,aq]
 by_cases hc:c=0
 ·subst hc
  rw [if_pos rfl,show decide ((0:Int)=0)=true from rfl,Bool.not_true,ad,Oj hk (h rfl) (by omega) NI]
  simp only [ma,if_true]
 ·rw [decide_eq_false hc,Bool.not_false,ae,if_neg hc];rfl
theorem C5 (hk:F3 k) (ret:Tm×Int→Option S) {line:Tm} {q:Int×Int×ByteArray×List Tm} {w:Tm} {c:Int} (hc:c≠0) (hw:w.sys.length<1073741824):
  ∀ (r p acc:List (Br Tm)) (m:Nat),w.sys=p++r→0<m→j6 k ret line q w m c acc (p.length:Int)=ret (aN,c):=by
 intro r p acc m h hm
 obtain ⟨m,rfl⟩: ∃j,m=j+1:=⟨m-1,by omega⟩
 cases r with
 |nil=>simp only [j6,nT,aA h,ad,af hk.fu,it hc hk,aq]
 |cons x r=>
  obtain ⟨e1,e2,e3,e4⟩:=az h (by omega)
  simp only [j6,nT,e1,ae,e2,Option.bind_some,af hk.fu,cr,eK,aY,decide_eq_false hc,Bool.not_false,it hc hk,aq]
theorem aaK (hk:F3 k) (ret:Tm×Int→Option S) {line:Tm} (hl:Fm line) {q:Int×Int×ByteArray×List Tm} {w:Tm} (hw:w.sys.length<1073741824) (hs: ∀b∈w.sys,b.kids=[bG b]):
  ∀ (r p acc:List (Br Tm)) (m:Nat),w.sys=p++r→r.length<m→acc.length+r.length<1073741824→
   j6 k ret line q w m 0 acc (p.length:Int)=eE (gP line r) (fun l=>cO k (.mk q.1 q.2.1 q.2.2.1 [] q.2.2.2 (acc++l)) 0 fun z=>ret (z.1,z.2.1)) fun e=>ret (aN,e):=by
 intro r
 induction r with
 |nil=>
  intro p acc m h hm ha
  obtain ⟨m,rfl,hm'⟩:=ak hm
  simp only [j6,nT,aA h,ad,af hk.fu,aq,gP,aR,List.append_nil]
 |cons x r ih=>
  intro p acc m h hm ha
  obtain ⟨m,rfl,hm'⟩:=ak hm
  obtain ⟨e1,e2,e3,e4⟩:=az h (by omega)
  have hx:=hs x (by rw [h];simp)
  have hg:al x.kids 0=some (bG x):=by rw [hx];rfl
  have hat: ∀g:Tm×Int→Option S,gR k line [⟨1,0⟩,⟨2,0⟩] 0 g=g (tE (cA [⟨1,0⟩,⟨2,0⟩] line)):=fun g=>E2 hk hl NJ g
  simp only [j6,nT,e1,ae,e2,Option.bind_some,af hk.fu,cr,eK,aY,show decide ((0:Int)=0)=true from rfl,Bool.not_true,ad,aq,hat,hg,bt,fz]
  rw [aO (by simp at ha ⊢;omega),gP,aM]
  cases hx2:cA [⟨1,0⟩,⟨2,0⟩] line with
  |error e=>
   have he:=fZ hx2
   rw [e3]
   exact C5 hk ret (show e≠0 by omega) hw r (p++[x]) _ m e4 (by simp at hm';omega)
  |ok u=>
   rw [aR,aM,e3]
   refine (ih (p++[x]) (acc++[.mk x.face [.mk 14 0 ByteArray.empty [⟨1,0⟩] [u,bG x] []]]) m e4 hm' (by simp at ha ⊢;omega)).trans ?_
   refine bJ (fun l _=> ?_) fun _ _=>rfl
   rw [aR,List.append_assoc];rfl
theorem aeo (hk:F3 k) {line a:Tm} {sys:List (Br Tm)} (hl:In k line) (ha:In k a) (hs:In k (bj sys)) (ret:Tm×Int→Option S):wH k line a sys ret=ret (tE (dk [line,a,bj sys] (iN line a sys))):=by
 have hin: ∀x∈[line,a,bj sys],In k x:=fun x hx=>by
  simp at hx
  rcases hx with rfl|rfl|rfl<;>assumption
 have hfm:bm [line,a,bj sys]=0→ ∀x∈[line,a,bj sys],Fm x:=fun h=>dW (fun x hx=>(hin x hx).1) h
 have hsl:sys.length<1073741824:=hs.1.node.2.2.2.2.2.2
 simp only [wH,Ft,af hk.fu,aq,OZ hk.fu]
 have hb: ∀g:Int→Option S,gQ k [line,a,.mk 15 0 ByteArray.empty [] [.mk 3 0 ByteArray.empty [] [] [],.mk 3 0 ByteArray.empty [] [] []] sys] g=g (bm [line,a,bj sys]):=fun g=>qD hk hin (by simp) g
 have hc: ∀g:Tm→Option S,dF k (.mk 15 0 ByteArray.empty [] [.mk 3 0 ByteArray.empty [] [] [],.mk 3 0 ByteArray.empty [] [] []] sys) g=g (bj sys):=fun g=>qB (bj sys) hs.1 g hs.2.1
 simp only [hb,hc,qB line hl.1 _ hl.2.1,qB a ha.1 _ ha.2.1,aeK hk (fun h=>hfm h line (by simp)),bt,fz]
 unfold dk
 by_cases h0:bm [line,a,bj sys]=0
 ·have fl:=hfm h0 line (by simp)
  have fa:=hfm h0 a (by simp)
  have sy:=mf (hfm h0 (bj sys) (by simp))
  simp only [h0,if_true]
  have hret:ret (tE (eD (iN line a sys)))=eE (iN line a sys) (fun t=>cO k t 0 fun z=>ret (z.1,z.2.1)) fun e=>ret (aN,e):=by
   unfold eD
   rw [fU _ ret,aM]
   refine bJ (fun t ht=> ?_) fun _ _=>rfl
   rw [←fU _ ret]
   exact ((uG hk (t:=t) (c:=0) (fun _=>(Bx hk fl fa sy ht).1) ret).trans rfl).symm
  rw [hret]
  unfold iN
  rw [aM]
  cases h1:eL 0 [⟨0,0⟩] line with
  |error e=>
   have he:=uU h1
   exact C5 hk ret (w:=bj sys) (show e≠0 by omega) hsl sys [] [] k rfl (by have:4294968296≤k:=hk;omega)
  |ok l1=>
   rw [aR,aM]
   refine (aaK hk ret fl (w:=bj sys) hsl (fun b hb=>(sy.kid b hb).1) sys [] [] k rfl (by have:4294968296≤k:=hk;omega) (by simp;omega)).trans ?_
   exact bJ (fun l _=>rfl) fun _ _=>rfl
 ·simp only [if_neg h0]
  exact C5 hk ret (w:=bj sys) h0 hsl sys [] [] k rfl (by have:4294968296≤k:=hk;omega)
theorem zI (hk:F3 k) {kd n:Int} {nm:ByteArray} {r:List Cl} {ks:List Tm} {acc:List (Br Tm)} (hkd:0≤kd) (hacc:acc.length<1073741824) {f:List Cl} {x:Except Int Tm} (hx:Gd x) (ret:Tm→Option S):
  gk k (.mk kd n nm r ks acc) f (rE x) ret=ret (rE (bE x fun y=> .ok (.mk kd n nm r ks (acc++[.mk f [y]])))):=by
 simp only [gk,GH,aq]
 rw [show decide ((Tm.mk kd n nm r ks acc).kind<0)=false from decide_eq_false (show ¬kd<0 by omega),ad]
 cases x with
 |error e=>rw [show rE (.error e)=bp e from rfl,g6 (hx.en e rfl).1,ae];rfl
 |ok y=>
  rw [show rE (.ok y)=y from rfl,decide_eq_false (by have:=hx.kd y rfl;omega),ad,aO (n:=([]:List (Br Tm)).length) (m:=(Tm.mk kd n nm r ks acc).sys.length) (by show 0+acc.length≤_;omega),aO (by show acc.length+1≤_;omega)];rfl
theorem Jm (hk:F3 k) (ret:Tm→Option S) {line:Tm} {sys:List (Br Tm)} {e:Int} (he:0<e) (hsl:sys.length<1073741824):
  ∀ (r p:List (Br Tm)) (m:Nat),sys=p++r→0<m→hY k ret line sys m (bp e) (p.length:Int)=ret (bp e):=by
 intro r p m h hm
 obtain ⟨m,rfl⟩: ∃j,m=j+1:=⟨m-1,by omega⟩
 have hb:decide ((bp e).kind≥0)=false:=decide_eq_false (show ¬ (-e≥0) by omega)
 cases r with
 |nil=>simp only [hY,nX,aA h,ad,aq]
 |cons x r=>
  obtain ⟨e1,e2,e3,e4⟩:=az h (by omega)
  simp only [hY,nX,e1,ae,hb,ad,aq]
theorem abz (hk:F3 k) (ret:Tm→Option S) {line:Tm} (hl:Fm line) {sys:List (Br Tm)} (hsl:sys.length<1073741824) (hs: ∀b∈sys,b.kids=[bG b]∧Fm (bG b)) {ks:List Tm}:
  ∀ (r p acc:List (Br Tm)) (m:Nat),sys=p++r→r.length<m→acc.length+r.length<1073741824→
   hY k ret line sys m (.mk 15 0 ByteArray.empty [] ks acc) (p.length:Int)=ret (rE (bE (gP line r) fun l=> .ok (.mk 15 0 ByteArray.empty [] ks (acc++l)))):=by
 intro r
 induction r with
 |nil=>
  intro p acc m h hm ha
  obtain ⟨m,rfl,hm'⟩:=ak hm
  simp only [hY,nX,aA h,ad,aq,gP,ao,List.append_nil];rfl
 |cons x r ih=>
  intro p acc m h hm ha
  obtain ⟨m,rfl,hm'⟩:=ak hm
  obtain ⟨e1,e2,e3,e4⟩:=az h (by omega)
  obtain ⟨hx,hxf⟩:=hs x (by rw [h];simp)
  have hg:al x.kids 0=some (bG x):=by rw [hx];rfl
  have hkd:decide ((Tm.mk 15 0 ByteArray.empty [] ks acc).kind≥0)=true:=rfl
  have hfar: ∀g:Tm→Option S,jO k line [⟨1,0⟩,⟨2,0⟩] g=g (rE (cA [⟨1,0⟩,⟨2,0⟩] line)):=fun g=>EZ hk hl NJ g
  have ga:Gd (cA [⟨1,0⟩,⟨2,0⟩] line):=⟨fun e h=>fZ h,fun t h=>by rw [Be h];exact hl.rows.no.2.2⟩
  have htwo: ∀g:Tm→Option S,bV k 14 (rE (cA [⟨1,0⟩,⟨2,0⟩] line)) (bG x) g=g (rE (bE (cA [⟨1,0⟩,⟨2,0⟩] line) fun u=> .ok (aH 14 [u,bG x]))):=fun g=>ir hk (y:= .ok (bG x)) ga (gr hxf.rows.no.2.2) g
  simp only [hY,nX,e1,ae,hkd,e2,Option.bind_some,af hk.fu,aq,hfar,hg,htwo]
  rw [gP]
  cases hx2:cA [⟨1,0⟩,⟨2,0⟩] line with
  |error e=>
   have he:=fZ hx2
   have hb:decide ((bp e).kind≥0)=false:=decide_eq_false (show ¬ (-e≥0) by omega)
   rw [dx,dx,dx,show rE (.error e)=bp e from rfl,hb,ad]
   have:=zI hk (kd:=15) (n:=0) (nm:=ByteArray.empty) (r:=[]) (ks:=ks) (acc:=acc) (by decide) (by omega) (f:=x.face) (x:= .error e) ⟨fun e' h=>by injection h with h;exact h▸he,fun t h=>by cases h⟩ fun r11=>hY k ret line sys m r11 (IntKind.wrap .i64 ((p.length:Int)+1))
   refine this.trans ?_
   rw [dx,show rE (.error e)=bp e from rfl,e3]
   exact Jm hk ret he.1 hsl r (p++[x]) m e4 (by simp at hm';omega)
  |ok u=>
   rw [ao,ao,show rE (.ok (aH 14 [u,bG x]))=aH 14 [u,bG x] from rfl,show decide ((aH 14 [u,bG x]).kind≥0)=true from rfl,ae]
   have:=zI hk (kd:=15) (n:=0) (nm:=ByteArray.empty) (r:=[]) (ks:=ks) (acc:=acc) (by decide) (by omega) (f:=x.face) (x:= .ok (.mk 14 0 ByteArray.empty [⟨1,0⟩] [u,bG x] [])) (gr (show (0:Int)≤14 by decide)) fun r9=>hY k ret line sys m r9 (IntKind.wrap .i64 ((p.length:Int)+1))
   refine this.trans ?_
   rw [ao,e3]
   refine (ih (p++[x]) (acc++[.mk x.face [.mk 14 0 ByteArray.empty [⟨1,0⟩] [u,bG x] []]]) m e4 hm' (by simp at ha ⊢;omega)).trans ?_
   congr 2
   cases gP line r with
   |error e=>rfl
   |ok l=>rw [ao,ao,ao,List.append_assoc];rfl
theorem aep (hk:F3 k) {line a:Tm} {sys:List (Br Tm)} (hl:Fm line) (ha:Fm a) (sy:SyF sys) (ret:Tm→Option S):sR k line a sys ret=ret (rE (iN line a sys)):=by
 have gt:Gd (eL 0 [⟨0,0⟩] line):=⟨fun e h=>uU h,fun t h=>by rw [Q8 h];exact hl.rows.no.2.2⟩
 have h14: ∀g:Tm→Option S,bV k 14 line a g=g (aH 14 [line,a]):=fun g=>ir hk (x:= .ok line) (y:= .ok a) (gr hl.rows.no.2.2) (gr ha.rows.no.2.2) g
 have h15: ∀g:Tm→Option S,bV k 15 (rE (eL 0 [⟨0,0⟩] line)) (aH 14 [line,a]) g=g (rE (bE (eL 0 [⟨0,0⟩] line) fun l1=> .ok (aH 15 [l1,aH 14 [line,a]]))):=fun g=>ir hk (y:= .ok (aH 14 [line,a])) gt (gZ (by decide) _) g
 have hsl:=sy.len
 simp only [sR,GJ,af hk.fu,aq,Oa hk hl (show (0:Int)≤0∧(0:Int)<24 by omega) NI,h14,h15]
 rw [decide_eq_false (by have:=hl.rows.no.2.2;omega),ad]
 unfold iN
 cases h1:eL 0 [⟨0,0⟩] line with
 |error e=>
  have he:=uU h1
  exact Jm hk ret he.1 (by omega) sys [] k rfl (by have:4294968296≤k:=hk;omega)
 |ok l1=>
  rw [ao,ao]
  exact abz hk ret hl (by omega) (fun b hb=>⟨(sy.kid b hb).1,(sy.kid b hb).2.1⟩) sys [] [] k rfl (by have:4294968296≤k:=hk;omega) (by simp;omega)
theorem afg (hk:F3 k) {line a:Tm} {sys:List (Br Tm)} (hl:In k line) (ha:In k a) (hs:In k (bj sys)) (ret:Tm×Int→Option S):xE k line a sys ret=ret (tE (dk [line,a,bj sys] (iN line a sys))):=by
 have hin: ∀x∈[line,a,bj sys],In k x:=fun x hx=>by
  simp at hx
  rcases hx with rfl|rfl|rfl<;>assumption
 have hfm:bm [line,a,bj sys]=0→ ∀x∈[line,a,bj sys],Fm x:=fun h=>dW (fun x hx=>(hin x hx).1) h
 simp only [xE,QI,af hk.fu,aq,Og hk.fu]
 exact uL hk hin (by simp) (F:=sR k line a sys) (fun h g=>aep hk (hfm h line (by simp)) (hfm h a (by simp)) (mf (hfm h (bj sys) (by simp))) g)
  (fun h=>⟨fun e he=>WQ he,fun t ht=>Bx hk (hfm h line (by simp)) (hfm h a (by simp)) (mf (hfm h (bj sys) (by simp))) ht⟩) ret
end Go.Proofs.YtapmagaejigpnaaGreatDoor
namespace Go.Proofs.YtapmagaejigpnaaGreatDoor
open Go PI
set_option linter.unusedVariables false
set_option linter.unusedSimpArgs false
set_option maxRecDepth 20000
variable {S:Type} {k:Nat}
def gq:List (Br Tm)→Except Int (List (Br Tm))
 |[]=> .ok []
 |b::r=>bE (cz (a7 b.face 0 1)) fun f=>bE (cA [⟨3,0⟩] (bG b)) fun u=>bE (gq r) fun l=> .ok (.mk f [u]::l)
def jc (t a:Tm) (sys:List (Br Tm)):Except Int Tm:=bE (aD 0 1 t) fun t'=>bE (aD 0 1 a) fun a'=>bE (gq sys) fun l=>bE (aD 0 2 a) fun a2=> .ok (.mk 15 0 ByteArray.empty [] [t',a'] (l++[.mk [⟨0,1⟩] [a2]]))
theorem Ze: ∀ {r:List (Br Tm)} {e:Int},gq r= .error e→0<e∧e≤1000:=by
 intro r
 induction r with
 |nil=>intro e h;cases h
 |cons b r ih=>
  intro e h
  rcases a_ h with h|⟨_,_,h⟩
  ·exact qI (lQ _ _ _) h
  rcases a_ h with h|⟨_,_,h⟩
  ·exact fZ h
  rcases a_ h with h|⟨_,_,h⟩
  ·exact ih h
  ·cases h
theorem Zd {t a:Tm} {sys:List (Br Tm)} {e:Int} (h:jc t a sys= .error e):0<e∧e≤1000:=by
 rcases a_ h with h|⟨_,_,h⟩
 ·exact b_ h
 rcases a_ h with h|⟨_,_,h⟩
 ·exact b_ h
 rcases a_ h with h|⟨_,_,h⟩
 ·exact Ze h
 rcases a_ h with h|⟨_,_,h⟩
 ·exact b_ h
 ·cases h
theorem Zf: ∀ {r l:List (Br Tm)},(∀b∈r,b.kids=[bG b]∧Fm (bG b)∧am b.face∧b.face.length<1073741824)→gq r= .ok l→bu l∧bh l≤201∧aI l≤r.length*20001∧l.length=r.length:=by
 intro r
 induction r with
 |nil=>
  intro l _ h
  injection h with h;subst h
  rw [bu,bh,aI]
  exact ⟨trivial,by omega,by omega,rfl⟩
 |cons b r ih=>
  intro l hr h
  obtain ⟨f,h0,h⟩:=aK h
  obtain ⟨u,h1,h⟩:=aK h
  obtain ⟨l',h2,h⟩:=aK h
  injection h with h;subst h
  obtain ⟨b1,b2,b3,b4⟩:=hr b (by simp)
  obtain ⟨i1,i2,i3,i4⟩:=ih (fun b hb=>hr b (by simp [hb])) h2
  obtain ⟨a1,a2,a3,a4⟩:=Bf b2 h1
  obtain ⟨g1,rfl⟩:=me h0
  have hf:=gx g1
  have:=hf.len
  refine ⟨?_, ?_, ?_,by simp [i4]⟩
  ·rw [bu,kI,bw,bw]
   exact ⟨⟨⟨hf.2,by omega,by simp⟩,a1,trivial⟩,i1⟩
  ·rw [bh,kY,aP,aP];omega
  ·rw [aI,iA,aw,aw,List.length_cons,Nat.add_mul];omega
theorem acL {l l':List (Br Tm)} (h:bu l) (h':bu l'):bu (l++l'):=by
 rw [okS_iff] at*
 intro b hb
 rcases List.mem_append.1 hb with hb|hb
 ·exact h b hb
 ·exact h' b hb
theorem WW (l l':List (Br Tm)):bh (l++l')=max (bh l) (bh l'):=by
 induction l with
 |nil=>rw [List.nil_append,bh];omega
 |cons b l ih=>rw [List.cons_append,bh,bh,ih];omega
theorem afE (l l':List (Br Tm)):aI (l++l')=aI l+aI l':=by
 induction l with
 |nil=>rw [List.nil_append,aI];omega
 |cons b l ih=>rw [List.cons_append,aI,aI,ih];omega
theorem acM:am [⟨0,1⟩]:=fun c hc=>by simp at hc;subst hc;exact ue
theorem CC (hk:F3 k) {t a:Tm} {sys:List (Br Tm)} (ht:Fm t) (ha:Fm a) (hs:SyF sys) {x:Tm} (h:jc t a sys= .ok x):In k x∧0≤x.kind:=by
 obtain ⟨t',h1,h⟩:=aK h
 obtain ⟨a',h2,h⟩:=aK h
 obtain ⟨l,h3,h⟩:=aK h
 obtain ⟨a2,h4,h⟩:=aK h
 injection h with h;subst h
 have f1:=qJ (by omega) ht h1
 have f2:=qJ (by omega) ha h2
 have f4:=qJ (by omega) ha h4
 obtain ⟨i1,i2,i3,i4⟩:=Zf hs.kid h3
 have:=hs.len;have:=f1.dep;have:=f2.dep;have:=f4.dep;have:=f1.siz;have:=f2.siz;have:=f4.siz
 have hm:sys.length*20001≤20000*20001:=Nat.mul_le_mul_right _ hs.len
 refine ⟨⟨?_,hk.fd ?_, ?_⟩,(by decide:(0:Int)≤15)⟩
 ·rw [OkT,bw,bw,bw]
  refine ⟨⟨by unfold aF;omega,by unfold aF;omega,by show 0<_;omega,fun c hc=>(by cases hc),by simp,by simp,by simp;omega⟩,⟨f1.ok,f2.ok,trivial⟩,acL i1 ?_⟩
  rw [bu,bu,kI,bw,bw]
  exact ⟨⟨⟨acM,by simp,by simp⟩,f4.ok,trivial⟩,trivial⟩
 ·rw [ar,aP,aP,aP,WW,bh,bh,kY,aP,aP];omega
 ·rw [ax,aw,aw,aw,afE,aI,aI,iA,aw,aw];omega
theorem tz (hk:F3 k) (ret:Tm×Int→Option S) {a:Tm} {q:Int×Int×ByteArray×List Tm} {sys:List (Br Tm)} {c:Int} (hc:c≠0) (hsl:sys.length<1073741824):
  ∀ (r p acc:List (Br Tm)) (m:Nat),sys=p++r→0<m→acc.length<1073741824→gu k ret a q sys m c acc (p.length:Int)=ret (aN,c):=by
 intro r p acc m h hm ha
 obtain ⟨m,rfl⟩: ∃j,m=j+1:=⟨m-1,by omega⟩
 have hr: ∀ (b:Br Tm) (f:Unit→Option S),Option.bind (ay 1099511627776 acc.length [b].length) f=f ():=fun b f=>aO (by simp;omega) f
 cases r with
 |nil=>simp only [gu,nU,aA h,ad,af hk.fu,nN hc hk,it hc hk,aq,hr]
 |cons x r=>
  obtain ⟨e1,e2,e3,e4⟩:=az h (by omega)
  simp only [gu,nU,e1,ae,e2,Option.bind_some,af hk.fu,cr,eK,aY,decide_eq_false hc,Bool.not_false,nN hc hk,it hc hk,aq,hr]
theorem aa2 (hk:F3 k) (ret:Tm×Int→Option S) {a:Tm} (ha:Fm a) {q:Int×Int×ByteArray×List Tm} {sys:List (Br Tm)} (hsl:sys.length<1073741824) (hs: ∀b∈sys,b.kids=[bG b]∧Fm (bG b)∧am b.face∧b.face.length<1073741824):
  ∀ (r p acc:List (Br Tm)) (m:Nat),sys=p++r→r.length<m→acc.length+r.length<1073741823→
   gu k ret a q sys m 0 acc (p.length:Int)=eE (bE (gq r) fun l=>bE (aD 0 2 a) fun a2=> .ok (l++[.mk [⟨0,1⟩] [a2]])) (fun l=>cO k (.mk q.1 q.2.1 q.2.2.1 [] q.2.2.2 (acc++l)) 0 fun z=>ret (z.1,z.2.1)) fun e=>ret (aN,e):=by
 intro r
 induction r with
 |nil=>
  intro p acc m h hm hacc
  obtain ⟨m,rfl,hm'⟩:=ak hm
  have hr: ∀ (b:Br Tm) (f:Unit→Option S),Option.bind (ay 1099511627776 acc.length [b].length) f=f ():=fun b f=>aO (by simp at hacc ⊢;omega) f
  have hup: ∀g:Tm×Int→Option S,co k a 0 2 0 g=g (tE (aD 0 2 a)):=fun g=>Fg hk ha (by omega) (by omega) g
  simp only [gu,nU,aA h,ad,af hk.fu,aq,hup,hr,gq,ao]
  cases hu:aD 0 2 a with
  |error e=>
   have he:=b_ hu
   show cO k _ e _=ret (aN,e)
   rw [it (show e≠0 by omega) hk]
  |ok a2=>rfl
 |cons x r ih=>
  intro p acc m h hm hacc
  obtain ⟨m,rfl,hm'⟩:=ak hm
  obtain ⟨e1,e2,e3,e4⟩:=az h (by omega)
  obtain ⟨x1,x2,x3,x4⟩:=hs x (by rw [h];simp)
  have hg:al x.kids 0=some (bG x):=by rw [x1];rfl
  have hr: ∀ (b:Br Tm) (f:Unit→Option S),Option.bind (ay 1099511627776 acc.length [b].length) f=f ():=fun b f=>aO (by simp at hacc ⊢;omega) f
  have hrow: ∀g:List Cl×Int→Option S,iO k x.face 0 g=g (a7 x.face 0 1):=fun g=>OW hk x3 x4 g
  simp only [gu,nU,e1,ae,e2,Option.bind_some,af hk.fu,cr,eK,aY,show decide ((0:Int)=0)=true from rfl,Bool.not_true,ad,aq,hrow,hg,hr]
  rw [gq,aM,aM]
  by_cases h1:(a7 x.face 0 1).2=0
  ·rw [e_ h1,aR,h1,E2 hk x2 zB,aM]
   cases h2:cA [⟨3,0⟩] (bG x) with
   |error e=>
    have he:=fZ h2
    rw [e3]
    exact tz hk ret (show e≠0 by omega) hsl r (p++[x]) _ m e4 (by simp at hm';omega) (by simp at hacc ⊢;omega)
   |ok u=>
    rw [aR,e3]
    refine (ih (p++[x]) (acc++[.mk (a7 x.face 0 1).1 [u]]) m e4 hm' (by simp at hacc ⊢;omega)).trans ?_
    rw [aM,aM]
    refine bJ (fun l _=> ?_) fun _ _=>rfl
    rw [aM,aR,aM]
    refine bJ (fun a2 _=> ?_) fun _ _=>rfl
    rw [aR,aR,List.append_assoc];rfl
  ·rw [d5 h1,zJ h1 hk,e3]
   exact tz hk ret h1 hsl r (p++[x]) _ m e4 (by simp at hm';omega) (by simp at hacc ⊢;omega)
theorem aew (hk:F3 k) {t a:Tm} {sys:List (Br Tm)} (ht:In k t) (ha:In k a) (hs:In k (bj sys)) (ret:Tm×Int→Option S):sb k t a sys ret=ret (tE (dk [t,a,bj sys] (jc t a sys))):=by
 have hin: ∀x∈[t,a,bj sys],In k x:=fun x hx=>by
  simp at hx
  rcases hx with rfl|rfl|rfl<;>assumption
 have hfm:bm [t,a,bj sys]=0→ ∀x∈[t,a,bj sys],Fm x:=fun h=>dW (fun x hx=>(hin x hx).1) h
 have hsl:sys.length<1073741824:=hs.1.node.2.2.2.2.2.2
 have hb: ∀g:Int→Option S,gQ k [t,a,.mk 15 0 ByteArray.empty [] [.mk 3 0 ByteArray.empty [] [] [],.mk 3 0 ByteArray.empty [] [] []] sys] g=g (bm [t,a,bj sys]):=fun g=>qD hk hin (by simp) g
 simp only [sb,Fv,af hk.fu,aq,OZ hk.fu,hb,bt,fz,iz hk (fun h=>hfm h t (by simp)) (show (0:Int)≤0∧(0:Int)≤1000000 by omega) (show (0:Int)≤1∧(1:Int)<9223372036854775808 by omega),
  iz hk (fun h=>hfm (gH h) a (by simp)) (show (0:Int)≤0∧(0:Int)≤1000000 by omega) (show (0:Int)≤1∧(1:Int)<9223372036854775808 by omega)]
 unfold dk
 have hfuel:sys.length<k:=by have:4294968296≤k:=hk;omega
 by_cases h0:bm [t,a,bj sys]=0
 ·have fl:=hfm h0 t (by simp)
  have fa:=hfm h0 a (by simp)
  have sy:=mf (hfm h0 (bj sys) (by simp))
  have hlen:=sy.len
  rw [h0,if_pos rfl,iD]
  have hret:ret (tE (eD (jc t a sys)))=eE (jc t a sys) (fun t=>cO k t 0 fun z=>ret (z.1,z.2.1)) fun e=>ret (aN,e):=by
   unfold eD
   rw [fU _ ret,aM]
   refine bJ (fun t ht=> ?_) fun _ _=>rfl
   rw [←fU _ ret]
   exact ((uG hk (t:=t) (c:=0) (fun _=>(CC hk fl fa sy ht).1) ret).trans rfl).symm
  rw [hret]
  unfold jc
  rw [aM]
  cases h1:aD 0 1 t with
  |error e=>
   have he:=b_ h1
   show gu k ret a _ sys k (ba e 0 1 a).2 [] 0=ret (aN,e)
   rw [er (show e≠0 by omega)]
   exact tz hk ret (show e≠0 by omega) hsl sys [] [] k rfl (by omega) (by simp)
  |ok t'=>
   rw [aR,aM]
   show gu k ret a (15,0,ByteArray.empty,[t',(ba 0 0 1 a).1]) sys k (ba 0 0 1 a).2 [] 0=_
   rw [iD]
   cases h2:aD 0 1 a with
   |error e=>
    have he:=b_ h2
    exact tz hk ret (show e≠0 by omega) hsl sys [] [] k rfl (by omega) (by simp)
   |ok a'=>
    rw [aR]
    refine (aa2 hk ret fa hsl sy.kid sys [] [] k rfl hfuel (by simp;omega)).trans ?_
    rw [aM,aM]
    refine bJ (fun l _=> ?_) fun _ _=>rfl
    rw [aM,aM]
    exact bJ (fun l _=>rfl) fun _ _=>rfl
 ·rw [if_neg h0,er h0]
  show gu k ret a _ sys k (ba (bm [t,a,bj sys]) 0 1 a).2 [] 0=_
  rw [er h0]
  exact tz hk ret h0 hsl sys [] [] k rfl (by omega) (by simp)
theorem Hi (hk:F3 k) {e:Int} (he:0<e) (f:List Cl) (x:Tm) (ret:Tm→Option S):gk k (bp e) f x ret=ret (bp e):=by
 simp only [gk,GH,aq]
 rw [g6 he,ae]
theorem C7 (hk:F3 k) (ret:Tm→Option S) {a:Tm} (ha:Fm a) {sys:List (Br Tm)} {e:Int} (he:0<e) (hsl:sys.length<1073741824):
  ∀ (r p:List (Br Tm)) (m:Nat),sys=p++r→0<m→ke k ret a sys m (bp e) (p.length:Int)=ret (bp e):=by
 intro r p m h hm
 obtain ⟨m,rfl⟩: ∃j,m=j+1:=⟨m-1,by omega⟩
 have hb:decide ((bp e).kind≥0)=false:=decide_eq_false (show ¬ (-e≥0) by omega)
 have hup: ∀g:Tm→Option S,dl k a 0 2 g=g (rE (aD 0 2 a)):=fun g=>iw hk ha (by omega) (by omega) g
 cases r with
 |nil=>simp only [ke,nY,aA h,ad,aq,af hk.fu,hup,Hi hk he]
 |cons x r=>
  obtain ⟨e1,e2,e3,e4⟩:=az h (by omega)
  simp only [ke,nY,e1,ae,hb,ad,aq,af hk.fu,hup,Hi hk he]
theorem abI (hk:F3 k) (ret:Tm→Option S) {a:Tm} (ha:Fm a) {sys:List (Br Tm)} (hsl:sys.length<1073741824) (hs: ∀b∈sys,b.kids=[bG b]∧Fm (bG b)∧am b.face∧b.face.length<1073741824) {ks:List Tm}:
  ∀ (r p acc:List (Br Tm)) (m:Nat),sys=p++r→r.length<m→acc.length+r.length<1073741823→
   ke k ret a sys m (.mk 15 0 ByteArray.empty [] ks acc) (p.length:Int)=ret (rE (bE (bE (gq r) fun l=>bE (aD 0 2 a) fun a2=> .ok (l++[.mk [⟨0,1⟩] [a2]])) fun l=> .ok (.mk 15 0 ByteArray.empty [] ks (acc++l)))):=by
 have hup: ∀g:Tm→Option S,dl k a 0 2 g=g (rE (aD 0 2 a)):=fun g=>iw hk ha (by omega) (by omega) g
 intro r
 induction r with
 |nil=>
  intro p acc m h hm hacc
  obtain ⟨m,rfl,hm'⟩:=ak hm
  have hand: ∀g:Tm→Option S,gk k (.mk 15 0 ByteArray.empty [] ks acc) [⟨0,1⟩] (rE (aD 0 2 a)) g=_:=fun g=>zI hk (by decide) (by omega) (cH ha) g
  simp only [ke,nY,aA h,ad,aq,af hk.fu,hup,hand,gq,ao]
  congr 2
  cases aD 0 2 a with
  |error e=>rfl
  |ok a2=>rfl
 |cons x r ih=>
  intro p acc m h hm hacc
  obtain ⟨m,rfl,hm'⟩:=ak hm
  obtain ⟨e1,e2,e3,e4⟩:=az h (by omega)
  obtain ⟨x1,x2,x3,x4⟩:=hs x (by rw [h];simp)
  have hg:al x.kids 0=some (bG x):=by rw [x1];rfl
  have hkd:decide ((Tm.mk 15 0 ByteArray.empty [] ks acc).kind≥0)=true:=rfl
  have hlift: ∀g:List Cl×Int→Option S,jM k x.face 0 1 g=g (a7 x.face 0 1):=fun g=>uK hk.fu x3 x4 (by unfold aF;omega) (by unfold aF;omega) g
  have hfar: ∀g:Tm→Option S,jO k (bG x) [⟨3,0⟩] g=g (rE (cA [⟨3,0⟩] (bG x))):=fun g=>EZ hk x2 zB g
  have ga:Gd (cA [⟨3,0⟩] (bG x)):=⟨fun e h=>fZ h,fun t h=>by rw [Be h];exact x2.rows.no.2.2⟩
  have hand: ∀ (f:List Cl) (g:Tm→Option S),gk k (.mk 15 0 ByteArray.empty [] ks acc) f (rE (cA [⟨3,0⟩] (bG x))) g=g (rE (bE (cA [⟨3,0⟩] (bG x)) fun y=> .ok (.mk 15 0 ByteArray.empty [] ks (acc++[.mk f [y]])))):=fun f g=>zI hk (by decide) (by omega) ga g
  simp only [ke,nY,e1,ae,hkd,e2,Option.bind_some,af hk.fu,aq,hlift,hg,hfar,hand,aY]
  rw [gq]
  by_cases h1:(a7 x.face 0 1).2=0
  ·rw [decide_eq_true h1,Bool.not_true,ad,e_ h1,ao]
   cases h2:cA [⟨3,0⟩] (bG x) with
   |error e=>
    have he:=fZ h2
    rw [dx,dx,dx,dx,show rE (.error e)=bp e from rfl,e3]
    exact C7 hk ret ha he.1 hsl r (p++[x]) m e4 (by simp at hm';omega)
   |ok u=>
    rw [ao,ao,e3]
    refine (ih (p++[x]) (acc++[.mk (a7 x.face 0 1).1 [u]]) m e4 hm' (by simp at hacc ⊢;omega)).trans ?_
    congr 2
    cases gq r with
    |error e=>rfl
    |ok l=>
     rw [ao,ao,ao]
     cases aD 0 2 a with
     |error e=>rfl
     |ok a2=>rw [ao,ao,ao,ao,List.append_assoc];rfl
  ·rw [decide_eq_false h1,Bool.not_false,ae,d5 h1,jt (qI (lQ _ _ _) (d5 h1))];rfl
theorem aex (hk:F3 k) {t a:Tm} {sys:List (Br Tm)} (ht:Fm t) (ha:Fm a) (sy:SyF sys) (ret:Tm→Option S):sU k t a sys ret=ret (rE (jc t a sys)):=by
 have h15: ∀g:Tm→Option S,bV k 15 (rE (aD 0 1 t)) (rE (aD 0 1 a)) g=g (rE (bE (aD 0 1 t) fun x=>bE (aD 0 1 a) fun y=> .ok (aH 15 [x,y]))):=fun g=>ir hk (cH ht) (cH ha) g
 have hsl:=sy.len
 simp only [sU,GK,af hk.fu,aq,iw hk ht (show (0:Int)≤0∧(0:Int)≤1000000000 by omega) (show (0:Int)≤1∧(1:Int)<9223372036854775808 by omega),iw hk ha (show (0:Int)≤0∧(0:Int)≤1000000000 by omega) (show (0:Int)≤1∧(1:Int)<9223372036854775808 by omega),h15]
 have hfuel:sys.length<k:=by have:4294968296≤k:=hk;omega
 unfold jc
 cases h1:aD 0 1 t with
 |error e=>exact C7 hk ret ha (b_ h1).1 (by omega) sys [] k rfl (by omega)
 |ok t'=>
  rw [ao,ao]
  cases h2:aD 0 1 a with
  |error e=>exact C7 hk ret ha (b_ h2).1 (by omega) sys [] k rfl (by omega)
  |ok a'=>
   rw [ao,ao]
   refine (abI hk ret ha (by omega) sy.kid (ks:=[t',a']) sys [] [] k rfl hfuel (by simp;omega)).trans ?_
   congr 2
   cases gq sys with
   |error e=>rfl
   |ok l=>
    rw [ao,ao]
    cases aD 0 2 a with
    |error e=>rfl
    |ok a2=>rfl
theorem afl (hk:F3 k) {t a:Tm} {sys:List (Br Tm)} (ht:In k t) (ha:In k a) (hs:In k (bj sys)) (ret:Tm×Int→Option S):xJ k t a sys ret=ret (tE (dk [t,a,bj sys] (jc t a sys))):=by
 have hin: ∀x∈[t,a,bj sys],In k x:=fun x hx=>by
  simp at hx
  rcases hx with rfl|rfl|rfl<;>assumption
 have hfm:bm [t,a,bj sys]=0→ ∀x∈[t,a,bj sys],Fm x:=fun h=>dW (fun x hx=>(hin x hx).1) h
 simp only [xJ,QR,af hk.fu,aq,Og hk.fu]
 exact uL hk hin (by simp) (F:=sU k t a sys) (fun h g=>aex hk (hfm h t (by simp)) (hfm h a (by simp)) (mf (hfm h (bj sys) (by simp))) g)
  (fun h=>⟨fun e he=>Zd he,fun x hx=>CC hk (hfm h t (by simp)) (hfm h a (by simp)) (mf (hfm h (bj sys) (by simp))) hx⟩) ret
theorem agJ (hk:F3 k) {sys:List (Br Tm)} (h:In k (.mk 0 0 ByteArray.empty [] [] sys)) (hz:aI sys<1000000000) (hd:Fd k (bh sys+2)):In k (bj sys):=by
 obtain ⟨h1,h2,h3⟩:=h
 unfold bj
 refine ⟨?_, ?_, ?_⟩
 ·rw [OkT] at h1 ⊢
  refine ⟨⟨by unfold aF;omega,h1.1.2.1,h1.1.2.2.1,h1.1.2.2.2.1,h1.1.2.2.2.2.1,by simp,h1.1.2.2.2.2.2.2⟩, ?_,h1.2.2⟩
  rw [okK_iff]
  intro x hx
  have hx:x=aH 3 []:=by simp at hx;exact hx
  subst hx
  exact lS (by omega) (by simp) fun x hx=>by cases hx
 ·rw [ar,aP,aP,aP,ar,aP,bh]
  unfold Fd at*;omega
 ·rw [ax,aw,aw,aw,ax,aw,aI];omega
theorem aen (hk:F3 k) {line t:Tm} {sys:List (Br Tm)} (hl:In k line) (ht:In k t) (hs:In k (.mk 0 0 ByteArray.empty [] [] sys)) (ret:Bool→Option S):BU k line t sys ret=ret true:=by
 have hw: ∀g:Bool→Option S,fF k g=g true:=fun g=>Fh hk g
 simp only [BU,PZ,af hk.fu,aq,hw]
 obtain ⟨c,hc,hz⟩:=E6 (S:=S) hk.fu hl.1 hl.2.1 ht.1 ht.2.1 hs.1 hs.2.1 _
 refine Eq.trans hc ?_
 cases c with
 |true=>rfl
 |false=>
  obtain ⟨z1,z2,z3⟩:=hz rfl
  have hsz:aI sys≤150:=by rw [ax,aw] at z3;omega
  have hds:bh sys≤150:=by
   have:=gm (.mk 0 0 ByteArray.empty [] [] sys)
   rw [ar,aP] at this;omega
  have hwh:In k (bj sys):=agJ hk hs (by omega) (hk.fd (by omega))
  have i1:In k (tE (dk [line,t,bj sys] (iN line t sys))).1:=uO hk fun h x hx=>by
   have hfm:=dW (l:=[line,t,bj sys]) (fun x hx=>by
    simp at hx
    rcases hx with rfl|rfl|rfl
    ·exact hl.1
    ·exact ht.1
    ·exact hwh.1) h
   exact (Bx hk (hfm line (by simp)) (hfm t (by simp)) (mf (hfm (bj sys) (by simp))) hx).1
  have i2:In k (tE (dk [line,t,bj sys] (jc line t sys))).1:=uO hk fun h x hx=>by
   have hfm:=dW (l:=[line,t,bj sys]) (fun x hx=>by
    simp at hx
    rcases hx with rfl|rfl|rfl
    ·exact hl.1
    ·exact ht.1
    ·exact hwh.1) h
   exact (CC hk (hfm line (by simp)) (hfm t (by simp)) (mf (hfm (bj sys) (by simp))) hx).1
  have hsame: ∀ {z:Tm} {e:Int},In k z→ ∀g:Bool→Option S,gg k z e z e g=g true:=fun hz g=>zL hk hz _ g
  have hS: ∀ {z:Tm},In k z→ ∀g:Bool→Option S,dz k z z g=g true:=fun {z} hz g=>Fe z hz.1 g hz.2.1
  have hsys:(Tm.mk 0 0 ByteArray.empty [] [] sys).sys=sys:=rfl
  rw [ad]
  simp only [hsys,Fa line hl.1 _ hl.2.1,Fa t ht.1 _ ht.2.1,Fa _ hs.1 _ hs.2.1,aeo hk hl ht hwh,afg hk hl ht hwh,aew hk hl ht hwh,afl hk hl ht hwh,hsame i1,hsame i2,ae,hS hl,hS ht,hS hs]
end Go.Proofs.YtapmagaejigpnaaGreatDoor
namespace Go.Proofs.YtapmagaejigpnaaGreatDoor
open Go PI Go.ChangeShapes Go.WideShapes Go.ChangeAt Go.RowKit
set_option linter.unusedVariables false
set_option linter.unusedSimpArgs false
set_option maxRecDepth 100000
theorem IU {k:Nat} (hk:4296016872≤k) {H:Type} {t:Tm} {d:DataW H} (h:QT t d) (hb:Rows.uptoBulk d≤1048576):In k t:=by
 have h1:=h.1
 have h2:=gm t
 exact ⟨h.2 (by omega),by unfold Fd;omega,by omega⟩
theorem ZJ {k:Nat} (hk:4296016872≤k) {H:Type} {l:List (Br Tm)} {d:DataW H} (h:(aI l+1≤Rows.uptoBulk d∧l.length+1≤Rows.uptoBulk d)∧(Rows.uptoBulk d<1073741824→bu l)) (hb:Rows.uptoBulk d≤1048575):In k (.mk 0 0 ByteArray.empty [] [] l):=by
 have hz:ax (.mk 0 0 ByteArray.empty [] [] l)=1+aI l:=by rw [ax,aw]
 have h1:=h.1
 have h2:=gm (.mk 0 0 ByteArray.empty [] [] l)
 refine ⟨?_,by unfold Fd;omega,by omega⟩
 rw [OkT,bw]
 exact ⟨⟨by unfold aF;omega,by unfold aF;omega,by show 0<_;omega,fun c hc=>(by cases hc),by simp,by simp,by omega⟩,trivial,h.2 (by omega)⟩
theorem ab9 {k:Nat} (hk:4296016872≤k) {o:Obj} (ho:ag o) {t0:Tm} (h0:In k t0) {t1:Tm} (h1:In k t1) {t2:List (Br Tm)} (h2:In k (.mk 0 0 ByteArray.empty [] [] t2)):
  ca (LL o) 7 [.agg (dy ET.T t0),.agg (dy ET.T t1),fy t2 .none] [] (.ret (.bool true) []):=by
 have hF:F3 k:=by unfold F3;omega
 obtain ⟨j,rfl⟩: ∃j,k=j+1:=⟨k-1,by omega⟩
 obtain ⟨out,hout,hx⟩:=agf (S:=Out UU) o ho (j+1) [.agg (dy ET.T t0),.agg (dy ET.T t1),fy t2 .none] [] some (.ret (.bool true) []) (by
  cases t0;cases t1
  exact Eq.trans (by kernel_rfl) (aen hF h0 h1 h2 fun r=>some (Out.ret (U:=UU) (.bool r) [])))
 injection hx with hx
 exact hx▸hout
theorem ab8 (H:Type) (enc:TypeId×Value→H) (W:World) (base:Nat) (args:Array Value) (ds gs:List (DataW H)) (before:List MemPlace)
  (hval: ∀ (j:Nat) t v,Tryz.f7.params[j]? =some t→args[j]? =some v→Value.okWide Tryz.prog W .any base t v)
  (hW:DataW.Whole enc Tryz.prog Tryz.f7.params.toList Rows.buildCompsSpec.vars false W args.toList ds gs before) (hL:laidMetH Tryz.prog Rows.buildCompsRow.laid W) (hb:Rows.uptoBulkAll (ds++gs)≤1048576):
  Calls Tryz.prog 7 args W fun e W'=> ∃v,e= .returned v∧Rows.buildCompsSpec.post enc Tryz.prog Tryz.f7 false true false false W args v W':=by
 have hW':=hW
 obtain ⟨p,q,hA0,hV,rfl,hfz,hnd⟩:=hW
 have hA:DataW.TrodAll enc Tryz.prog W 0 (fun _=>true) true Tryz.f7.params.toList args.toList ds p:=hA0
 rw [Tryz.params7] at hA hval
 obtain ⟨v0,vs0,d0,ds0,p0,q0,hargs,rfl,rfl,h0,r0⟩:=trodAll_cons hA
 obtain ⟨v1,vs1,d1,ds1,p1,q1,rfl,rfl,rfl,h1,r1⟩:=trodAll_cons r0
 obtain ⟨v2,vs2,d2,ds2,p2,q2,rfl,rfl,rfl,h2,r2⟩:=trodAll_cons r1
 obtain ⟨rfl,rfl,rfl⟩:=trodAll_nil r2
 obtain rfl:args= #[v0,v1,v2]:=by cases args;simp_all
 obtain ⟨rfl,rfl⟩:=trodVars_none hV
 obtain ⟨o,ho,hh⟩:=agb hL
 simp only [List.append_nil,Rows.uptoBulkAll,Nat.add_zero] at hb
 obtain ⟨t0,e0,k0⟩:=Hk (o:=o) (g:=gB UU 0 fun _=>0) DG h0
 obtain ⟨t1,e1,k1⟩:=Hk (o:=o) (g:=gB UU 0 fun _=>0) DG h1
 obtain ⟨t2,e2,k2⟩:=Ws (o:=o) (g:=gB UU 0 fun _=>0) DG (hval 2 24 v2 rfl rfl) h2
 have b0:=Hq d0
 have b1:=Hq d1
 have hk:(4296016872:Nat)≤4296016872:=Nat.le_refl _
 generalize hkk:(4296016872:Nat)=k at hk
 have hok:=ab9 (k:=k) (by omega) ho (IU (by omega) k0 (by omega)) (IU (by omega) k1 (by omega)) (ZJ (by omega) k2 (by omega))
 refine (WF hok (Zv hh rfl rfl fun j p hj=> ?_)).mono ?_
 ·match j,hj with
  |0,hj=>cases hj;exact e0
  |1,hj=>cases hj;exact e1
  |2,hj=>cases hj;exact e2
  |j+3,hj=>simp at hj
 ·rintro e W' ⟨rfl,hkept⟩
  refine ⟨_,rfl,adm rfl rfl (fun t ht=> ?_) rfl hW' hkept⟩
  rw [Tryz.params7] at ht
  have ht':t=26∨t=26∨t=24:=by simpa using ht
  rcases ht' with rfl|rfl|rfl<;>exact of_decide_eq_true (by kernel_rfl)
noncomputable def C8 (os:Os):World:=
 {World.holding Tryz.prog os ⟨#[],#[],[]⟩ with heap:=(World.holding Tryz.prog os ⟨#[],#[],[]⟩).heap.modify 0 fun
   | .cells _ t frozen=> .cells (Lib.deBruijn32tab.map fun n:Nat=>Value.int .u8 n).toArray t frozen
   |o=>o}
def RP:Value:= .agg #[.int .i64 0,.int .i64 0,.string ByteArray.empty,.slice none 0 0,.slice none 0 0,.slice none 0 0]
def zeroArgs:Array Value:= #[RP,RP,.slice none 0 0]
def RO {H:Type}:DataW H:= .agg [.lit (.int .i64 0),.lit (.int .i64 0),.lit (.string []),.nil,.nil,.nil]
theorem ab5 (os:Os):laidMet Tryz.prog Rows.buildCompsRow.laid ((C8 os).forCall (fun _ _=>0) ⟨#[],zeroArgs,[]⟩).memory:=
 laidMet_of_run' 8 (by kernel_rfl) (by kernel_rfl)
theorem ad1 (os:Os) {H:Type} (enc:TypeId×Value→H): ∃places,DataW.whole enc Tryz.prog ((C8 os).forCall (fun _ _=>0) ⟨#[],zeroArgs,[]⟩).memory Tryz.f7.params.toList Rows.buildCompsSpec.vars false zeroArgs.toList 8=some ([RO,RO,.nil],[],places):=
 ⟨[],by kernel_rfl⟩
theorem acm (os:Os) (started:os.Started) (H:Type) (enc:TypeId×Value→H) (F:Stop.Interp):
  ReturnsInHanded {} Tryz.checked os 7 .any ((Rows.OpenSpec.upto Rows.buildCompsSpec).preRow enc Tryz.prog Tryz.f7 Rows.buildCompsUptoRow.domain false Rows.buildCompsUptoRow.laid) (((Rows.OpenSpec.upto Rows.buildCompsSpec).at F).post enc Tryz.prog Tryz.f7 false true false false):=by
 obtain ⟨places,hx⟩:=ad1 os enc
 refine returnsInHanded_of_row (C:=Tryz.checked) (s:=Rows.OpenSpec.upto Rows.buildCompsSpec) own started (by kernel_rfl) Tryz.func7
  (witness_row_at (enc:=enc) (C:=Tryz.checked) false (C8 os) zeroArgs rfl (by kernel_rfl) (by kernel_rfl) (by kernel_rfl)
   (OpenSpec.preRow_of_cond 8 hx (by kernel_rfl) (fun k hk=>by cases hk;kernel_rfl) (by kernel_rfl) (ab5 os))) ?_
 intro W base args ds gs before hval hW _ hcond _ hL _ _
 exact ab8 H enc W base args ds gs before hval hW hL (of_decide_eq_true (hcond _ rfl))
theorem afz:Rows.BuildCompsUptoSaid:=
 OpenClaim.holds_of_cond 7 Tryz.f7 rfl rfl rfl rfl rfl rfl rfl ⟨rfl,rfl,rfl,rfl,rfl⟩ rfl rfl rfl rfl rfl (by kernel_rfl) Tryz.func7 (by kernel_rfl)
  (of_decide_eq_true (by kernel_rfl)) (by unfold Func.isWrapper;first|(rw [if_pos (by decide+kernel)];kernel_rfl)|(rw [if_neg (by decide+kernel)];exact ⟨rfl,rfl⟩))
  (fun os started H enc _ F=>by rw [OpenClaim.pre_eq_preRow];exact acm os started H enc F)
theorem plain (f:FuncId) (fn:Func) (hf:Tryz.pinned.checked.prog.funcNamed "hypercube/hypercubelaw15.BuildComps" =some f) (hfn:Tryz.pinned.checked.prog.funcs[f]? =some fn):
  true=Tryz.pinned.checked.prog.looks []∧ ∀ (j:Nat) t,fn.params[j]? =some t→Tryz.pinned.checked.prog.wantsStandIn t=false:=by
 obtain rfl:f=7:=Option.some.inj ((show Tryz.prog.funcNamed "hypercube/hypercubelaw15.BuildComps" =some 7 by kernel_rfl).symm.trans hf)|>.symm
 obtain rfl:fn=Tryz.f7:=(Option.some.inj (Tryz.func7.symm.trans hfn)).symm
 refine ⟨by kernel_rfl,fun j t ht=> ?_⟩
 rw [Tryz.params7] at ht
 have ht':t=26∨t=26∨t=24:=by simpa using Array.mem_of_getElem? ht
 rcases ht' with rfl|rfl|rfl
 ·exact (show Tryz.prog.wantsStandIn 26=false by kernel_rfl)
 ·exact (show Tryz.prog.wantsStandIn 26=false by kernel_rfl)
 ·exact (show Tryz.prog.wantsStandIn 24=false by kernel_rfl)
theorem buildComps_holds:Rows.BuildCompsUptoCardSaid:=
 Claim7.holds_tied_plain_at .later [] _ _ _ _ afz (fun _ h=>by cases h) (by kernel_rfl) (fun _ h=>by cases h) buildCompsUpto_row_tie rfl ⟨rfl,rfl⟩ (by kernel_rfl) rfl plain (by kernel_rfl)
#print axioms buildComps_holds
end Go.Proofs.YtapmagaejigpnaaGreatDoor
