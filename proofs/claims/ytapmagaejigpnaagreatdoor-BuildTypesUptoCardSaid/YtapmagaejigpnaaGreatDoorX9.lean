/- BuildTypes answers true at every input of bulk at most 1048576, and leaves its arguments as they were: the second form's card. -/
import Derived.Test.YtapmagaejigpnaaGreatDoorX8
import Derived.KernelRfl
namespace Go.Proofs.YtapmagaejigpnaaGreatDoor
open Go PI
set_option linter.unusedVariables false
set_option linter.unusedSimpArgs false
set_option maxRecDepth 20000
variable {S:Type} {k:Nat}
theorem MF {l:List Cl} (hl:l.length<1073741824) (ret:List Cl→Option S):o9 l ret=ret l:=by
 unfold o9
 rw [aV (by simp;omega)]
section
variable {hd:Tm→(Tm→Option S)→Option S}
theorem YK (hk:Fu k) (ret:List Tm→Option S) {l:List Tm} (hQ: ∀y∈l,∀g,hd y g=g y) (hl:l.length<1073741824):
  ∀ (r p:List Tm) (m:Nat),l=p++r→r.length<m→oL hd k ret l m p (p.length:Int)=ret l:=by
 intro r
 induction r with
 |nil=>
  intro p m h hm
  obtain ⟨m,rfl,hm'⟩:=ak hm
  simp only [oL,vi,aA h,ad]
  rw [h,List.append_nil]
 |cons y r ih=>
  intro p m h hm
  obtain ⟨m,rfl,hm'⟩:=ak hm
  obtain ⟨e1,e2,e3,e4⟩:=az h (by omega)
  have hlen:p.length+r.length+1=l.length:=by rw [h];simp;omega
  simp only [oL,vi,e1,ae,e2,Option.bind_some,aD,e3,hQ y (by rw [h];simp)]
  rw [aV (by simp;omega)]
  exact ih (p++[y]) m e4 hm'
theorem MH (hk:Fu k) {l:List Tm} (hQ: ∀y∈l,∀g,hd y g=g y) (hl:l.length<1073741824) (ret:List Tm→Option S):rJ hd k l ret=ret l:=by
 simp only [rJ,Ff]
 exact YK hk ret hQ hl l [] k rfl (by have:4294967296≤k:=hk;omega)
theorem YL (hk:Fu k) (ret:Tm→Option S) {t:Tm} (ht:OkT t) (hQ: ∀b∈t.sys,∀y∈b.kids,∀g,hd y g=g y) (r1:List Cl) (r2:List Tm):
  ∀ (r p:List (Br Tm)) (m:Nat),t.sys=p++r→r.length<m→oK hd k ret t r1 r2 m p (p.length:Int)=ret (.mk t.kind t.n t.name r1 r2 t.sys):=by
 obtain ⟨o1,o2,o3,o4,o5,o6,o7⟩:=ht.no
 intro r
 induction r with
 |nil=>
  intro p m h hm
  obtain ⟨m,rfl,hm'⟩:=ak hm
  simp only [oK,vh,aA h,ad]
  rw [h,List.append_nil]
 |cons y r ih=>
  intro p m h hm
  obtain ⟨m,rfl,hm'⟩:=ak hm
  obtain ⟨e1,e2,e3,e4⟩:=az h (by omega)
  have hy:y∈t.sys:=by rw [h];simp
  have hb:=(ht.bi hy).1
  have hlen:p.length+r.length+1=t.sys.length:=by rw [h];simp;omega
  simp only [oK,vh,e1,ae,e2,Option.bind_some,aD,e3,MF hb.2.1,ah hk,MH hk (hQ y hy) hb.2.2]
  rw [aV (by simp;omega)]
  have:=ih (p++[y]) m e4 hm'
  cases y
  exact this
end
theorem Dx (t:Tm):OkT t→ ∀ {k:Nat} (ret:Tm→Option S),Fd k (au t)→eG k t ret=ret t:=by
 induction t using d4 with
 |h t ih1 ih2=>
  intro ht k ret hk
  obtain ⟨q,rfl,hq,hf⟩:=hk.pos' (c8 t)
  obtain ⟨o1,o2,o3,o4,o5,o6,o7⟩:=ht.no
  simp only [eG,Fe,MF o5,ah hq,MH hq (fun y hy g=>ih1 y hy (ht.ki hy) g (hf _ (c7 hy))) o6]
  have:=YL hq ret ht (fun b hb y hy g=>ih2 b hb y hy ((ht.bi hb).2 y hy) g (hf _ (cZ hb hy))) t.r t.kids t.sys [] q rfl (by have:4294967296≤q:=hq;omega)
  refine Eq.trans this ?_
  cases t;rfl
theorem aa9 {v d d':Int} (h:24≤d) (h':24≤d') (t:Tm):ep v d t=ep v d' t:=by
 have hb: ∀kd,cX kd d=cX kd d':=fun kd=>by funext b;unfold cX;rw [mB h,mB h']
 cases t
 rw [ep,ep,hb,mB h,mB h']
theorem FF (t:Tm): ∀ {v d d':Int},24≤d→24≤d'→bq false v d t=bq false v d' t:=by
 induction t using d4 with
 |h t ih1 ih2=>
  intro v d d' h h'
  rw [pY,pY,aa9 h h']
  have hK: ∀ (l:List Tm) (i:Nat),(∀x∈l,x∈t.kids)→bZ false v d t.kind i l=bZ false v d' t.kind i l:=by
   intro l
   induction l with
   |nil=>intro i _;rw [bZ,bZ]
   |cons x l ih=>
    intro i hl
    rw [bZ,bZ,ih _ fun y hy=>hl y (by simp [hy]),ih1 x (hl x (by simp)) (d:=d+bK t.kind i) (d':=d'+bK t.kind i) (by have:=gi t.kind i;omega) (by have:=gi t.kind i;omega)]
  rw [hK _ _ fun x hx=>hx,Aa,Aa]
  have hS:(t.sys.all fun b=>b.kids.all (bq false v (d+av t.kind)))=t.sys.all fun b=>b.kids.all (bq false v (d'+av t.kind)):=by
   rw [Bool.eq_iff_iff,List.all_eq_true,List.all_eq_true]
   have he: ∀b∈t.sys,∀x∈b.kids,bq false v (d+av t.kind) x=bq false v (d'+av t.kind) x:=fun b hb x hx=>ih2 b hb x hx (by have:=dY t.kind;omega) (by have:=dY t.kind;omega)
   constructor
   ·intro hh b hb
    rw [List.all_eq_true]
    intro x hx
    rw [←he b hb x hx]
    exact List.all_eq_true.1 (hh b hb) x hx
   ·intro hh b hb
    rw [List.all_eq_true]
    intro x hx
    rw [he b hb x hx]
    exact List.all_eq_true.1 (hh b hb) x hx
  rw [hS]
  simp
end Go.Proofs.YtapmagaejigpnaaGreatDoor
namespace Go.Proofs.YtapmagaejigpnaaGreatDoor
open Go PI
set_option linter.unusedVariables false
set_option linter.unusedSimpArgs false
set_option maxRecDepth 20000
variable {S:Type} {k:Nat}
def aH (kd:Int) (l:List Tm):Tm:= .mk kd 0 ByteArray.empty [] l []
def vN (n:Int):Tm:= .mk 1 n ByteArray.empty [] [] []
def a_ (c a b:Int) (t:Tm):Tm×Int:=if c=0 then tE (aG a b t) else (aN,c)
def di (p:Tm×Int):Except Int Tm:=if p.2=0 then .ok p.1 else .error p.2
theorem fb {c a b:Int} {t:Tm} (h:c≠0):a_ c a b t=(aN,c):=if_neg h
theorem gV {c a b:Int} {t:Tm} (h:(a_ c a b t).2=0):c=0:=by
 by_cases hc:c=0
 ·exact hc
 ·rw [fb hc] at h;exact h
theorem jR (a b:Int) (t:Tm):a_ 0 a b t=tE (aG a b t):=rfl
theorem jO (hk:F3 k) {c:Int} {t:Tm} (h:c=0→Fm t) {a b:Int} (ha:0≤a∧a≤1000000) (hb:0≤b∧b<9223372036854775808) (ret:Tm×Int→Option S):b_ k t a b c ret=ret (a_ c a b t):=by
 by_cases hc:c=0
 ·subst hc;exact Nb hk (h rfl) ha hb ret
 ·rw [tJ hc hk,fb hc]
theorem afv (x:Except Int Tm) (h: ∀e,x= .error e→e≠0):di (tE x)=x:=by
 cases x with
 |ok t=>rfl
 |error e=>exact if_neg (h e rfl)
theorem DD (hk:F3 k) {t:Tm} {c:Int} (h:c=0→In k t) (ret:Tm×Int→Option S):(dT k t c fun r=>ret (r.1,r.2.1))=ret (tE (fT (di (t,c)))):=by
 by_cases hc:c=0
 ·subst hc
  rw [MJ hk (h rfl)]
  show _=ret (tE (fT (.ok t)))
  unfold fT
  rw [ao]
  by_cases h0:cx t=0
  ·rw [if_pos h0,if_pos h0];rfl
  ·rw [if_neg h0,if_neg h0];rfl
 ·rw [pC hc hk]
  show _=ret (tE (fT (if c=0 then _ else _)))
  rw [if_neg hc];rfl
def dw (c:Int) (t a f y:Tm):Tm×Int:=
 (aH 7 [t,aH 11 [(a_ c 1 1 a).1,(a_ (a_ c 1 1 a).2 1 0 y).1,aH 6 [(a_ (a_ (a_ c 1 1 a).2 1 0 y).2 1 0 f).1,vN 0]]],(a_ (a_ (a_ c 1 1 a).2 1 0 y).2 1 0 f).2)
def dJ (t a f y:Tm):Except Int Tm:=bE (aG 1 1 a) fun a'=>bE (aG 1 0 y) fun y'=>bE (aG 1 0 f) fun f'=> .ok (aH 7 [t,aH 11 [a',y',aH 6 [f',vN 0]]])
theorem nQ {c:Int} (h:c≠0) (t a f y:Tm):(dw c t a f y).2=c:=by
 unfold dw
 rw [fb h,fb h,fb h]
theorem wY (t a f y:Tm):di (dw 0 t a f y)=dJ t a f y:=by
 unfold dw dJ
 rw [jR]
 cases h1:aG 1 1 a with
 |error e=>
  have he:e≠0:=by have:=dc h1;omega
  show di (_,(a_ (a_ e 1 0 y).2 1 0 f).2)=_
  rw [fb he,fb he,fg];exact if_neg he
 |ok a'=>
  rw [ao]
  show di (aH 7 [t,aH 11 [a',(a_ 0 1 0 y).1,aH 6 [(a_ (a_ 0 1 0 y).2 1 0 f).1,vN 0]]],(a_ (a_ 0 1 0 y).2 1 0 f).2)=_
  rw [jR]
  cases h2:aG 1 0 y with
  |error e=>
   have he:e≠0:=by have:=dc h2;omega
   show di (_,(a_ e 1 0 f).2)=_
   rw [fb he,fg];exact if_neg he
  |ok y'=>
   rw [ao]
   show di (aH 7 [t,aH 11 [a',y',aH 6 [(a_ 0 1 0 f).1,vN 0]]],(a_ 0 1 0 f).2)=_
   rw [jR]
   cases h3:aG 1 0 f with
   |error e=>
    have he:e≠0:=by have:=dc h3;omega
    rw [fg];exact if_neg he
   |ok f'=>rfl
theorem MO (hk:F3 k) {c:Int} {t a f y:Tm} (ha:c=0→Fm a) (hf:c=0→Fm f) (hy:c=0→Fm y) (ret:Int×Int×ByteArray×List Tm×Int→Option S):
  ng k t a f y c ret=ret (7,0,ByteArray.empty,(dw c t a f y).1.kids,(dw c t a f y).2):=by
 simp only [ng,ND,ah hk.fu,aD,jO hk ha (show (0:Int)≤1∧(1:Int)≤1000000 by omega) (show (0:Int)≤1∧(1:Int)<9223372036854775808 by omega),
  jO hk (fun h=>hy (gV h)) (show (0:Int)≤1∧(1:Int)≤1000000 by omega) (show (0:Int)≤0∧(0:Int)<9223372036854775808 by omega),
  jO hk (fun h=>hf (gV (gV h))) (show (0:Int)≤1∧(1:Int)≤1000000 by omega) (show (0:Int)≤0∧(0:Int)<9223372036854775808 by omega),eD,yR,bz,iG]
 rfl
def dS (c:Int) (t:Tm):Tm×Int:=(aH 7 [t,aH 4 [(a_ c 1 0 t).1,aH 11 [(a_ (a_ c 1 0 t).2 2 1 t).1,vN 1,vN 0]]],(a_ (a_ c 1 0 t).2 2 1 t).2)
def d7 (t:Tm):Except Int Tm:=bE (aG 1 0 t) fun t1=>bE (aG 2 1 t) fun t2=> .ok (aH 7 [t,aH 4 [t1,aH 11 [t2,vN 1,vN 0]]])
theorem lL {c:Int} (h:c≠0) (t:Tm):(dS c t).2=c:=by
 unfold dS
 rw [fb h,fb h]
theorem Ao (t:Tm):di (dS 0 t)=d7 t:=by
 unfold dS d7
 rw [jR]
 cases h1:aG 1 0 t with
 |error e=>
  have he:e≠0:=by have:=dc h1;omega
  show di (_,(a_ e 2 1 t).2)=_
  rw [fb he,fg];exact if_neg he
 |ok a'=>
  rw [ao]
  show di (aH 7 [t,aH 4 [a',aH 11 [(a_ 0 2 1 t).1,vN 1,vN 0]]],(a_ 0 2 1 t).2)=_
  rw [jR]
  cases h2:aG 2 1 t with
  |error e=>
   have he:e≠0:=by have:=dc h2;omega
   rw [fg];exact if_neg he
  |ok y'=>rfl
theorem MG (hk:F3 k) {c:Int} {t:Tm} (h:c=0→Fm t) (ret:Int×Int×ByteArray×List Tm×Int→Option S):
  nf k t c ret=ret (7,0,ByteArray.empty,(dS c t).1.kids,(dS c t).2):=by
 simp only [nf,NC,ah hk.fu,aD,jO hk h (show (0:Int)≤1∧(1:Int)≤1000000 by omega) (show (0:Int)≤0∧(0:Int)<9223372036854775808 by omega),
  jO hk (fun z=>h (gV z)) (show (0:Int)≤2∧(2:Int)≤1000000 by omega) (show (0:Int)≤1∧(1:Int)<9223372036854775808 by omega),eD,yR,bz,iG]
 rfl
def aeW (q p:Tm×Int):Tm×Int:=dw p.2 q.1 p.1 (vN 1) (vN 0)
def kq (c:Int) (t a:Tm):Tm×Int:=
 let p1:=a_ c 1 0 a
 let p2:=a_ p1.2 1 0 a
 let p3:=a_ p2.2 2 0 t
 let p4:=a_ p3.2 2 0 a
 let p5:=dw p4.2 p3.1 p4.1 (vN 1) (vN 0)
 let p6:=dS p5.2 p5.1
 (aH 7 [aH 4 [t,p1.1],aH 4 [p2.1,p6.1]],p6.2)
def ij (t a:Tm):Except Int Tm:=bE (aG 1 0 a) fun a1=>bE (aG 1 0 a) fun y=>bE (aG 2 0 t) fun t'=>bE (aG 2 0 a) fun a'=>bE (dJ t' a' (vN 1) (vN 0)) fun x=>bE (d7 x) fun c=> .ok (aH 7 [aH 4 [t,a1],aH 4 [y,c]])
theorem Xa {c:Int} (h:c≠0) (t a:Tm):(kq c t a).2=c:=by
 unfold kq
 simp only [fb h,nQ h,lL h]
theorem G3 {t a f y:Tm} {e:Int} (h:dJ t a f y= .error e):0<e∧e≤1000:=by
 rcases bm h with h|⟨_,_,h⟩
 ·exact dc h
 rcases bm h with h|⟨_,_,h⟩
 ·exact dc h
 rcases bm h with h|⟨_,_,h⟩
 ·exact dc h
 ·cases h
theorem F1 {t:Tm} {e:Int} (h:d7 t= .error e):0<e∧e≤1000:=by
 rcases bm h with h|⟨_,_,h⟩
 ·exact dc h
 rcases bm h with h|⟨_,_,h⟩
 ·exact dc h
 ·cases h
theorem Pr {p:Tm×Int} {t:Tm} (h:di p= .ok t):p=(t,0):=by
 unfold di at h
 split at h
 ·next h0=>injection h with h;exact Prod.ext h h0
 ·cases h
theorem Pq {p:Tm×Int} {e:Int} (h:di p= .error e):p.2=e∧e≠0:=by
 unfold di at h
 split at h
 ·cases h
 ·next h0=>injection h with h;exact ⟨h,h▸h0⟩
theorem GY (t a:Tm):di (kq 0 t a)=ij t a:=by
 unfold kq ij
 simp only [jR]
 cases h1:aG 1 0 a with
 |error e=>
  have he:e≠0:=by have:=dc h1;omega
  rw [fg]
  show di (_,(dS (dw (a_ (a_ (a_ e 1 0 a).2 2 0 t).2 2 0 a).2 _ _ _ _).2 _).2)=_
  simp only [fb he,nQ he,lL he]
  exact if_neg he
 |ok a1=>
  simp only [ao,tE,jR,h1]
  cases h3:aG 2 0 t with
  |error e=>
   have he:e≠0:=by have:=dc h3;omega
   rw [fg]
   simp only [tE,fb he,nQ he,lL he]
   exact if_neg he
  |ok t'=>
   simp only [ao,tE,jR]
   cases h4:aG 2 0 a with
   |error e=>
    have he:e≠0:=by have:=dc h4;omega
    rw [fg]
    simp only [tE,nQ he,lL he]
    exact if_neg he
   |ok a'=>
    simp only [ao,tE]
    rw [←wY]
    cases h5:di (dw 0 t' a' (vN 1) (vN 0)) with
    |error e=>
     obtain ⟨h6,he⟩:=Pq h5
     rw [fg,h6,lL he]
     exact if_neg he
    |ok x=>
     rw [ao,Pr h5,←Ao]
     cases h7:di (dS 0 x) with
     |error e=>
      obtain ⟨h8,he⟩:=Pq h7
      rw [fg,h8]
      exact if_neg he
     |ok c=>rw [ao,Pr h7];rfl
theorem oY (n:Int) (h:0≤n∧n≤10):OkT (vN n):=by
 unfold vN
 rw [OkT,ce,bY]
 exact ⟨⟨by unfold aE;omega,by unfold aE;omega,by show 0<_;omega,fun c hc=>(by cases hc),by simp,by simp,by simp⟩,trivial,trivial⟩
theorem fm_v0:Fm (vN 0):=⟨oY 0 (by omega),by rfl⟩
theorem fm_v1:Fm (vN 1):=⟨oY 1 (by omega),by rfl⟩
theorem oX {kd:Int} (hkd:0≤kd∧kd≤28) {l:List Tm} (hl:l.length<10) (h: ∀x∈l,OkT x):OkT (aH kd l):=by
 unfold aH
 rw [OkT,okK_iff,bY]
 exact ⟨⟨by unfold aE;omega,by unfold aE;omega,by show 0<_;omega,fun c hc=>(by cases hc),by simp,by omega,by simp⟩,h,trivial⟩
theorem FH {kd d:Int} (hd:24≤d) {l:List Tm} (ho:ep (-1) 24 (aH kd l)=true) (h: ∀x∈l,bq false (-1) 24 x=true):bq false (-1) d (aH kd l)=true:=by
 rw [FF (aH kd l) hd (show (24:Int)≤24 by omega),pY,ho]
 have hK: ∀ (r:List Tm) (i:Nat),(∀x∈r,bq false (-1) 24 x=true)→bZ false (-1) 24 kd i r=true:=by
  intro r
  induction r with
  |nil=>intro i _;rw [bZ]
  |cons x r ih=>
   intro i hr
   have hb:=gi kd i
   rw [bZ,ih _ fun y hy=>hr y (by simp [hy])]
   have hv:dp (-1) (dE kd i)= -1:=rfl
   rw [hv,FF x (show (24:Int)≤24+bK kd i by omega) (show (24:Int)≤24 by omega),hr x (by simp)];rfl
 show (!(false&&_)&&(true&&(bZ false (-1) 24 kd 0 l&&cR false (-1) 24 kd [])))=true
 rw [hK l 0 h,cR];rfl
def Fd2 (n m:Nat) (t:Tm):Prop:=OkT t∧bq false (-1) 24 t=true∧au t≤n∧ay t≤m
theorem Fd2.fm {n m:Nat} {t:Tm} (h:Fd2 n m t) (hn:n≤200) (hm:m≤20000):Fm t:=⟨h.1,G_ (by have:=h.2.2.1;omega) (by have:=h.2.2.2;omega) h.2.1⟩
theorem Fd2.isIn {n m:Nat} {t:Tm} (h:Fd2 n m t) (hk:F3 k) (hn:n≤1000) (hm:m≤1000000):In k t:=⟨h.1,hk.fd (by have:=h.2.2.1;omega),by have:=h.2.2.2;omega⟩
theorem Fm.f2 {t:Tm} (h:Fm t):Fd2 200 20000 t:=⟨h.1,(kr h.2).2.2,(kr h.2).1,(kr h.2).2.1⟩
theorem Fd2.mono {n m n' m':Nat} {t:Tm} (h:Fd2 n m t) (hn:n≤n') (hm:m≤m'):Fd2 n' m' t:=⟨h.1,h.2.1,by have:=h.2.2.1;omega,by have:=h.2.2.2;omega⟩
theorem Fd2.up {n m:Nat} {t t':Tm} (h:Fd2 n m t) {a b:Int} (ha:0≤a∧a≤1000000000) (hl:aG a b t= .ok t'):Fd2 n m t':=by
 obtain ⟨u,h1,h2⟩:=aM hl
 obtain ⟨p1,p2,p3,p4⟩:=B1 ha.1 ha.2 t 0 0 u h1
 obtain ⟨q1,q2,q3,q4⟩:=B1 (by omega) (by omega) u 0 0 t' h2
 have w:=p4 h.1
 have w2:=q4 w.1
 have ho:=w.2.2 24 24 (by omega) (by omega) h.2.1
 exact ⟨w2.1,w2.2.2 24 24 (by omega) (by omega) ho,by have:=h.2.2.1;omega,by have:=h.2.2.2;omega⟩
theorem lZ {kd:Int} (hkd:0≤kd∧kd≤28) {n m:Nat} {a b:Tm} (ho:ep (-1) 24 (aH kd [a,b])=true) (ha:Fd2 n m a) (hb:Fd2 n m b):Fd2 (n+1) (2*m+1) (aH kd [a,b]):=by
 have hx: ∀x∈[a,b],Fd2 n m x:=fun x hx=>by simp at hx;rcases hx with rfl|rfl<;>assumption
 refine ⟨oX hkd (by simp) fun x h=>(hx x h).1,FH (by omega) ho fun x h=>(hx x h).2.1, ?_, ?_⟩
 ·unfold aH;rw [au,bk,bk,bk,bN];have:=ha.2.2.1;have:=hb.2.2.1;omega
 ·unfold aH;rw [ay,aI,aI,aI,aX];have:=ha.2.2.2;have:=hb.2.2.2;omega
theorem G2 {kd:Int} (hkd:0≤kd∧kd≤28) {n m:Nat} {a b c:Tm} (ho:ep (-1) 24 (aH kd [a,b,c])=true) (ha:Fd2 n m a) (hb:Fd2 n m b) (hc:Fd2 n m c):Fd2 (n+1) (3*m+1) (aH kd [a,b,c]):=by
 have hx: ∀x∈[a,b,c],Fd2 n m x:=fun x hx=>by simp at hx;rcases hx with rfl|rfl|rfl<;>assumption
 refine ⟨oX hkd (by simp) fun x h=>(hx x h).1,FH (by omega) ho fun x h=>(hx x h).2.1, ?_, ?_⟩
 ·unfold aH;rw [au,bk,bk,bk,bk,bN];have:=ha.2.2.1;have:=hb.2.2.1;have:=hc.2.2.1;omega
 ·unfold aH;rw [ay,aI,aI,aI,aI,aX];have:=ha.2.2.2;have:=hb.2.2.2;have:=hc.2.2.2;omega
theorem jl {n m:Nat} (hn:1≤n) (hm:1≤m) {i:Int} (hi:i=0∨i=1):Fd2 n m (vN i):=by
 have:Fd2 1 1 (vN i):=by
  rcases hi with rfl|rfl
  ·exact ⟨fm_v0.1,by rfl,by show 1≤1;omega,by show 1≤1;omega⟩
  ·exact ⟨fm_v1.1,by rfl,by show 1≤1;omega,by show 1≤1;omega⟩
 exact this.mono hn hm
theorem sh {n m:Nat} (hn:1≤n) (hm:1≤m) {t a f y x:Tm} (ht:Fd2 n m t) (ha:Fd2 n m a) (hf:Fd2 n m f) (hy:Fd2 n m y) (h:dJ t a f y= .ok x):Fd2 (n+3) (12*m+9) x:=by
 obtain ⟨a',h1,h⟩:=aM h
 obtain ⟨y',h2,h⟩:=aM h
 obtain ⟨f',h3,h⟩:=aM h
 injection h with h;subst h
 have c1:=lZ (kd:=6) (by omega) (by rfl) (hf.up (by omega) h3) (jl hn hm (.inl rfl))
 have c2:=G2 (kd:=11) (by omega) (by rfl) ((ha.up (by omega) h1).mono (Nat.le_succ n) (show m≤2*m+1 by omega)) ((hy.up (by omega) h2).mono (Nat.le_succ n) (show m≤2*m+1 by omega)) c1
 exact (lZ (kd:=7) (by omega) (by rfl) (ht.mono (show n≤n+1+1 by omega) (show m≤3*(2*m+1)+1 by omega)) c2).mono (by omega) (by omega)
theorem Aq {n m:Nat} (hn:1≤n) (hm:1≤m) {t x:Tm} (ht:Fd2 n m t) (h:d7 t= .ok x):Fd2 (n+3) (12*m+9) x:=by
 obtain ⟨a',h1,h⟩:=aM h
 obtain ⟨y',h2,h⟩:=aM h
 injection h with h;subst h
 have c1:=G2 (kd:=11) (by omega) (by rfl) (ht.up (by omega) h2) (jl hn hm (.inr rfl)) (jl hn hm (.inl rfl))
 have c2:=lZ (kd:=4) (by omega) (by rfl) ((ht.up (by omega) h1).mono (Nat.le_succ n) (show m≤3*m+1 by omega)) c1
 exact (lZ (kd:=7) (by omega) (by rfl) (ht.mono (show n≤n+1+1 by omega) (show m≤2*(3*m+1)+1 by omega)) c2).mono (by omega) (by omega)
theorem GV {n m:Nat} (hn:1≤n) (hm:1≤m) {t a x:Tm} (ht:Fd2 n m t) (ha:Fd2 n m a) (h:ij t a= .ok x):Fd2 (n+8) (1000*m+1000) x:=by
 obtain ⟨a1,h1,h⟩:=aM h
 obtain ⟨y,h2,h⟩:=aM h
 obtain ⟨t',h3,h⟩:=aM h
 obtain ⟨a',h4,h⟩:=aM h
 obtain ⟨z,h5,h⟩:=aM h
 obtain ⟨c,h6,h⟩:=aM h
 injection h with h;subst h
 have c1:=sh hn hm (ht.up (by omega) h3) (ha.up (by omega) h4) (jl hn hm (.inr rfl)) (jl hn hm (.inl rfl)) h5
 have c2:=Aq (by omega) (by omega) c1 h6
 have c3:=lZ (kd:=4) (by omega) (by rfl) ((ha.up (by omega) h2).mono (show n≤n+3+3 by omega) (show m≤12*(12*m+9)+9 by omega)) c2
 have c4:=lZ (kd:=4) (by omega) (by rfl) ht (ha.up (by omega) h1)
 exact (lZ (kd:=7) (by omega) (by rfl) (c4.mono (show n+1≤n+3+3+1 by omega) (show 2*m+1≤2*(12*(12*m+9)+9)+1 by omega)) c3).mono (by omega) (by omega)
end Go.Proofs.YtapmagaejigpnaaGreatDoor
namespace Go.Proofs.YtapmagaejigpnaaGreatDoor
open Go PI
set_option linter.unusedVariables false
set_option linter.unusedSimpArgs false
set_option maxRecDepth 20000
variable {S:Type} {k:Nat}
def eO (l:List Tm) (x:Except Int Tm):Except Int Tm:=if bn l=0 then fT x else .error (bn l)
theorem DT {l:List Tm} {p:Tm×Int} {x:Except Int Tm} (h0:bn l=0→di p=x) (hc:bn l≠0→p.2=bn l):fT (di p)=eO l x:=by
 unfold eO
 by_cases h:bn l=0
 ·rw [if_pos h,h0 h]
 ·rw [if_neg h]
  unfold di
  rw [hc h,if_neg h];rfl
theorem Bn {c:Int} {t a f y:Tm} (h:(dw c t a f y).2=0):c=0:=by
 by_cases hc:c=0
 ·exact hc
 ·rw [nQ hc] at h;exact h
theorem F0 {c:Int} {t:Tm} (h:(dS c t).2=0):c=0:=by
 by_cases hc:c=0
 ·exact hc
 ·rw [lL hc] at h;exact h
theorem yY {p:Tm×Int} (h:p.2=0):di p= .ok p.1:=if_pos h
theorem acl (hk:F3 k) {t a f y:Tm} (ht:In k t) (ha:In k a) (hf:In k f) (hy:In k y) (ret:Tm×Int→Option S):vA k t a f y ret=ret (tE (eO [t,a,f,y] (dJ t a f y))):=by
 have hin: ∀x∈[t,a,f,y],In k x:=fun x hx=>by
  simp at hx
  rcases hx with rfl|rfl|rfl|rfl<;>assumption
 have hfm:bn [t,a,f,y]=0→ ∀x∈[t,a,f,y],Fm x:=fun h=>fI (fun x hx=>(hin x hx).1) h
 simp only [vA,Nw,ah hk.fu,aD,yE hk hin (by simp),Dx t ht.1 _ ht.2.1,MO hk (fun h=>hfm h a (by simp)) (fun h=>hfm h f (by simp)) (fun h=>hfm h y (by simp))]
 refine (DD hk (t:=(dw (bn [t,a,f,y]) t a f y).1) (fun h=> ?_) ret).trans ?_
 ·have h0:=Bn h
  have:=yY h
  rw [h0,wY] at this
  rw [h0]
  exact (sh (by omega) (by omega) (hfm h0 t (by simp)).f2 (hfm h0 a (by simp)).f2 (hfm h0 f (by simp)).f2 (hfm h0 y (by simp)).f2 this).isIn hk (by omega) (by omega)
 ·exact congrArg (fun z=>ret (tE z)) (DT (fun h=>by rw [h];exact wY t a f y) fun h=>nQ h t a f y)
theorem acf (hk:F3 k) {t:Tm} (ht:In k t) (ret:Tm×Int→Option S):vw k t ret=ret (tE (eO [t] (d7 t))):=by
 have hin: ∀x∈[t],In k x:=fun x hx=>by
  simp at hx
  subst hx;exact ht
 have hfm:bn [t]=0→ ∀x∈[t],Fm x:=fun h=>fI (fun x hx=>(hin x hx).1) h
 simp only [vw,Nu,ah hk.fu,aD,yE hk hin (by simp),Dx t ht.1 _ ht.2.1,MG hk (fun h=>hfm h t (by simp))]
 refine (DD hk (t:=(dS (bn [t]) t).1) (fun h=> ?_) ret).trans ?_
 ·have h0:=F0 h
  have:=yY h
  rw [h0,Ao] at this
  rw [h0]
  exact (Aq (by omega) (by omega) (hfm h0 t (by simp)).f2 this).isIn hk (by omega) (by omega)
 ·exact congrArg (fun z=>ret (tE z)) (DT (fun h=>by rw [h];exact Ao t) fun h=>lL h t)
theorem Pz {n m:Nat} {c a b:Int} {t:Tm} (h:Fd2 n m t) (ha:0≤a∧a≤1000000000) (hz:(a_ c a b t).2=0):Fd2 n m (a_ c a b t).1:=by
 have h0:=gV hz
 subst h0
 rw [jR] at hz ⊢
 cases hx:aG a b t with
 |ok t'=>exact h.up ha hx
 |error e=>
  rw [hx] at hz
  have:=dc hx
  have hz:e=0:=hz
  omega
theorem aci (hk:F3 k) {t a:Tm} (ht:In k t) (ha:In k a) (hst:ay t≤150) (hsa:ay a≤150) (ret:Tm×Int→Option S):vz k t a ret=ret (tE (eO [t,a] (ij t a))):=by
 have hin: ∀x∈[t,a],In k x:=fun x hx=>by
  simp at hx
  rcases hx with rfl|rfl<;>assumption
 have hfm:bn [t,a]=0→ ∀x∈[t,a],Fm x:=fun h=>fI (fun x hx=>(hin x hx).1) h
 have ft:bn [t,a]=0→Fd2 150 150 t:=fun h=>⟨ht.1,(hfm h t (by simp)).f2.2.1,by have:=ie t;omega,hst⟩
 have fa:bn [t,a]=0→Fd2 150 150 a:=fun h=>⟨ha.1,(hfm h a (by simp)).f2.2.1,by have:=ie a;omega,hsa⟩
 generalize hc:bn [t,a]=c at ft fa
 have e1: ∀g,b_ k a 1 0 c g=g (a_ c 1 0 a):=fun g=>jO (S:=S) hk (fun h=>(fa h).fm (by omega) (by omega)) (by omega) (by omega) g
 generalize h1:a_ c 1 0 a=p1 at e1
 have z1:p1.2=0→c=0:=fun h=>gV (by rw [h1];exact h)
 have e2: ∀g,b_ k a 1 0 p1.2 g=g (a_ p1.2 1 0 a):=fun g=>jO (S:=S) hk (fun h=>(fa (z1 h)).fm (by omega) (by omega)) (by omega) (by omega) g
 generalize h2:a_ p1.2 1 0 a=p2 at e2
 have z2:p2.2=0→c=0:=fun h=>z1 (gV (by rw [h2];exact h))
 have e3: ∀g,b_ k t 2 0 p2.2 g=g (a_ p2.2 2 0 t):=fun g=>jO (S:=S) hk (fun h=>(ft (z2 h)).fm (by omega) (by omega)) (by omega) (by omega) g
 have f3:(a_ p2.2 2 0 t).2=0→Fd2 150 150 (a_ p2.2 2 0 t).1:=fun h=>Pz (ft (z2 (gV h))) (by omega) h
 generalize h3:a_ p2.2 2 0 t=p3 at e3 f3
 have z3:p3.2=0→c=0:=fun h=>z2 (gV (by rw [h3];exact h))
 have e4: ∀g,b_ k a 2 0 p3.2 g=g (a_ p3.2 2 0 a):=fun g=>jO (S:=S) hk (fun h=>(fa (z3 h)).fm (by omega) (by omega)) (by omega) (by omega) g
 have f4:(a_ p3.2 2 0 a).2=0→Fd2 150 150 (a_ p3.2 2 0 a).1:=fun h=>Pz (fa (z3 (gV h))) (by omega) h
 have y4:(a_ p3.2 2 0 a).2=0→p3.2=0:=fun h=>gV h
 generalize h4:a_ p3.2 2 0 a=p4 at e4 f4 y4
 have e5: ∀g,ng k p3.1 p4.1 (vN 1) (vN 0) p4.2 g=g (7,0,ByteArray.empty,(dw p4.2 p3.1 p4.1 (vN 1) (vN 0)).1.kids,(dw p4.2 p3.1 p4.1 (vN 1) (vN 0)).2):=
  fun g=>MO (S:=S) hk (fun h=>(f4 h).fm (by omega) (by omega)) (fun _=>fm_v1) (fun _=>fm_v0) g
 have f5:(dw p4.2 p3.1 p4.1 (vN 1) (vN 0)).2=0→Fd2 153 1809 (dw p4.2 p3.1 p4.1 (vN 1) (vN 0)).1:=fun h=>by
  have h0:=Bn h
  have:=yY h
  rw [h0,wY] at this
  rw [h0]
  exact sh (by omega) (by omega) (f3 (y4 h0)) (f4 h0) (jl (by omega) (by omega) (.inr rfl)) (jl (by omega) (by omega) (.inl rfl)) this
 have k5:(dw p4.2 p3.1 p4.1 (vN 1) (vN 0)).1= .mk 7 0 ByteArray.empty [] (dw p4.2 p3.1 p4.1 (vN 1) (vN 0)).1.kids []:=rfl
 have x5:(dw p4.2 p3.1 p4.1 (vN 1) (vN 0)).2=0→c=0:=fun h=>z3 (y4 (Bn h))
 generalize h5:dw p4.2 p3.1 p4.1 (vN 1) (vN 0)=p5 at e5 f5 k5 x5
 have e6: ∀g,nf k (.mk 7 0 ByteArray.empty [] p5.1.kids []) p5.2 g=g (7,0,ByteArray.empty,(dS p5.2 p5.1).1.kids,(dS p5.2 p5.1).2):=fun g=>by
  rw [←k5];exact MG (S:=S) hk (fun h=>(f5 h).fm (by omega) (by omega)) g
 have hM:kq c t a=(aH 7 [aH 4 [t,p1.1],aH 4 [p2.1,(dS p5.2 p5.1).1]],(dS p5.2 p5.1).2):=by
  unfold kq
  simp only [h1,h2,h3,h4,h5]
 have k6:(dS p5.2 p5.1).1= .mk 7 0 ByteArray.empty [] (dS p5.2 p5.1).1.kids []:=rfl
 simp only [vz,Nv,ah hk.fu,aD,yE hk hin (by simp),hc,Dx t ht.1 _ ht.2.1,e1,e2,e3,e4,bz,iG,eD,yR]
 have e5':=e5
 unfold vN at e5'
 simp only [e5',e6,←k6]
 refine Eq.trans (b:=dT k (kq c t a).1 (kq c t a).2 fun r=>ret (r.1,r.2.1)) (by rw [hM];rfl) ?_
 refine (DD hk (fun h=> ?_) ret).trans ?_
 ·have hz:c=0:=x5 (F0 (by rw [hM] at h;exact h))
  have:=yY h
  subst hz
  rw [GY] at this
  exact (GV (by omega) (by omega) (ft rfl) (fa rfl) this).isIn hk (by omega) (by omega)
 ·subst hc
  exact congrArg (fun z=>ret (tE z)) (DT (fun h=>by rw [h];exact GY t a) fun h=>Xa h t a)
end Go.Proofs.YtapmagaejigpnaaGreatDoor
namespace Go.Proofs.YtapmagaejigpnaaGreatDoor
open Go PI
set_option linter.unusedVariables false
set_option linter.unusedSimpArgs false
set_option maxRecDepth 20000
variable {S:Type} {k:Nat}
structure Gd (x:Except Int Tm):Prop where
 en: ∀e,x= .error e→0<e∧e≤1000
 kd: ∀t,x= .ok t→0≤t.kind
theorem kz {t:Tm} (h:0≤t.kind):Gd (.ok t):=⟨fun e h=>(by cases h),fun t' h'=>by injection h' with h';exact h'▸h⟩
theorem de {a b:Int} {t:Tm} (h:Fm t):Gd (aG a b t):=⟨fun e he=>dc he,fun t' h'=>by rw [Py h'];exact h.rows.no.2.2⟩
theorem cG {x:Except Int Tm} {f:Tm→Except Int Tm} (hx:Gd x) (hf: ∀t,x= .ok t→Gd (f t)):Gd (bE x f):=by
 cases hh:x with
 |error e=>exact ⟨fun e' h=>by injection h with h;exact h▸hx.en e hh,fun t h=>by cases h⟩
 |ok t=>exact hf t hh
theorem io {kd:Int} (h:0≤kd) (l:List Tm):Gd (.ok (aH kd l)):=kz h
theorem mQ (hk:F3 k) {kd:Int} {x y:Except Int Tm} (hx:Gd x) (hy:Gd y) (ret:Tm→Option S):cv k kd (rE x) (rE y) ret=ret (rE (bE x fun a=>bE y fun b=> .ok (aH kd [a,b]))):=
 MA hk (fun e h=>(hx.en e h).1) hx.kd (fun e h=>(hy.en e h).1) hy.kd ret
theorem Mz (hk:F3 k) {kd:Int} {x y z:Except Int Tm} (hx:Gd x) (hy:Gd y) (hz:Gd z) (ret:Tm→Option S):ke k kd (rE x) (rE y) (rE z) ret=ret (rE (bE x fun a=>bE y fun b=>bE z fun c=> .ok (aH kd [a,b,c]))):=by
 simp only [ke,Pa,ah hk.fu,aD,nE,yV]
 have:=HQ hk.fu ret (kd:=kd) (l:=[rE x,rE y,rE z]) (by simp) [rE x,rE y,rE z] [] k rfl (by have:4294968296≤k:=hk;simp;omega)
 refine Eq.trans this ?_
 congr 1
 rw [List.find?_cons,List.find?_cons,List.find?_cons]
 cases x with
 |error e=>rw [show rE (.error e)=bH e from rfl,jr (hx.en e rfl).1];rfl
 |ok a=>
  rw [show rE (.ok a)=a from rfl,decide_eq_false (by have:=hx.kd a rfl;omega),ao]
  cases y with
  |error e=>rw [show rE (.error e)=bH e from rfl,jr (hy.en e rfl).1];rfl
  |ok b=>
   rw [show rE (.ok b)=b from rfl,decide_eq_false (by have:=hy.kd b rfl;omega),ao]
   cases z with
   |error e=>rw [show rE (.error e)=bH e from rfl,jr (hz.en e rfl).1];rfl
   |ok c=>rw [show rE (.ok c)=c from rfl,decide_eq_false (by have:=hz.kd c rfl;omega)];rfl
theorem DA (hk:F3 k) {x:Except Int Tm} (hx:Gd x) (hf: ∀t,x= .ok t→Fm t) {a b:Int} (ha:0≤a∧a≤1000000000) (hb:0≤b∧b<9223372036854775808) (ret:Tm→Option S):d_ k (rE x) a b ret=ret (rE (bE x (aG a b))):=by
 cases hh:x with
 |error e=>
  simp only [d_,E4,aD]
  rw [show rE (.error e)=bH e from rfl,jr (hx.en e hh).1,ae];rfl
 |ok t=>exact mS hk (hf t hh) ha hb ret
theorem Mv (hk:F3 k) {T A:Except Int Tm} (hT:Gd T) (hA:Gd A) (hA': ∀t,A= .ok t→Fm t) {f y:Tm} (hf:Fm f) (hy:Fm y) (ret:Tm→Option S):
  lS k (rE T) (rE A) f y ret=ret (rE (bE T fun t=>bE A fun a=>dJ t a f y)):=by
 have h6: ∀g:Tm→Option S,cv k 6 (rE (aG 1 0 f)) (.mk 1 0 ByteArray.empty [] [] []) g=g (rE (bE (aG 1 0 f) fun a=> .ok (aH 6 [a,vN 0]))):=fun g=>mQ hk (y:= .ok (vN 0)) (de hf) (kz (by decide)) g
 have h11: ∀g:Tm→Option S,ke k 11 (rE (bE A (aG 1 1))) (rE (aG 1 0 y)) (rE (bE (aG 1 0 f) fun a=> .ok (aH 6 [a,vN 0]))) g=_:=fun g=>Mz hk (cG hA fun t h=>de (hA' t h)) (de hy) (cG (de hf) fun t h=>io (by decide) _) g
 have h7: ∀g:Tm→Option S,cv k 7 (rE T) (rE (bE (bE A (aG 1 1)) fun a=>bE (aG 1 0 y) fun b=>bE (bE (aG 1 0 f) fun a=> .ok (aH 6 [a,vN 0])) fun c=> .ok (aH 11 [a,b,c]))) g=_:=
  fun g=>mQ hk hT (cG (cG hA fun t h=>de (hA' t h)) fun _ _=>cG (de hy) fun _ _=>cG (cG (de hf) fun t h=>io (by decide) _) fun _ _=>io (by decide) _) g
 simp only [lS,O9,ah hk.fu,aD,DA hk hA hA' (show (0:Int)≤1∧(1:Int)≤1000000000 by omega) (show (0:Int)≤1∧(1:Int)<9223372036854775808 by omega),
  mS hk hy (show (0:Int)≤1∧(1:Int)≤1000000000 by omega) (show (0:Int)≤0∧(0:Int)<9223372036854775808 by omega),mS hk hf (show (0:Int)≤1∧(1:Int)≤1000000000 by omega) (show (0:Int)≤0∧(0:Int)<9223372036854775808 by omega),eF,yW,h6,h11,h7]
 congr 2
 cases T with
 |error e=>rfl
 |ok t=>
  rw [ao,ao]
  cases A with
  |error e=>rfl
  |ok a=>
   rw [ao,ao]
   unfold dJ
   cases aG 1 1 a with
   |error e=>rfl
   |ok a'=>
    rw [ao,ao]
    cases aG 1 0 y with
    |error e=>rfl
    |ok y'=>
     rw [ao,ao]
     cases aG 1 0 f with
     |error e=>rfl
     |ok f'=>rfl
theorem Mt (hk:F3 k) {X:Except Int Tm} (hX:Gd X) (hX': ∀t,X= .ok t→Fm t) (ret:Tm→Option S):lR k (rE X) ret=ret (rE (bE X d7)):=by
 have g1:Gd (bE X (aG 1 0)):=cG hX fun t h=>de (hX' t h)
 have g2:Gd (bE X (aG 2 1)):=cG hX fun t h=>de (hX' t h)
 have h11: ∀g:Tm→Option S,ke k 11 (rE (bE X (aG 2 1))) (.mk 1 1 ByteArray.empty [] [] []) (.mk 1 0 ByteArray.empty [] [] []) g=g (rE (bE (bE X (aG 2 1)) fun a=> .ok (aH 11 [a,vN 1,vN 0]))):=fun g=>Mz hk (y:= .ok (vN 1)) (z:= .ok (vN 0)) g2 (kz (by decide)) (kz (by decide)) g
 have h4: ∀g:Tm→Option S,cv k 4 (rE (bE X (aG 1 0))) (rE (bE (bE X (aG 2 1)) fun a=> .ok (aH 11 [a,vN 1,vN 0]))) g=_:=fun g=>mQ hk g1 (cG g2 fun _ _=>io (by decide) _) g
 have h7: ∀g:Tm→Option S,cv k 7 (rE X) (rE (bE (bE X (aG 1 0)) fun a=>bE (bE (bE X (aG 2 1)) fun a=> .ok (aH 11 [a,vN 1,vN 0])) fun b=> .ok (aH 4 [a,b]))) g=_:=
  fun g=>mQ hk hX (cG g1 fun _ _=>cG (cG g2 fun _ _=>io (by decide) _) fun _ _=>io (by decide) _) g
 simp only [lR,O3,ah hk.fu,aD,DA hk hX hX' (show (0:Int)≤1∧(1:Int)≤1000000000 by omega) (show (0:Int)≤0∧(0:Int)<9223372036854775808 by omega),
  DA hk hX hX' (show (0:Int)≤2∧(2:Int)≤1000000000 by omega) (show (0:Int)≤1∧(1:Int)<9223372036854775808 by omega),eF,yW,h11,h4,h7]
 congr 2
 cases X with
 |error e=>rfl
 |ok t=>
  rw [ao,ao,ao,ao]
  unfold d7
  cases aG 1 0 t with
  |error e=>rfl
  |ok a'=>
   rw [ao,ao]
   cases aG 2 1 t with
   |error e=>rfl
   |ok y'=>rfl
theorem acj (hk:F3 k) {t a:Tm} (ht:Fd2 150 150 t) (ha:Fd2 150 150 a) (ret:Tm→Option S):rG k t a ret=ret (rE (ij t a)):=by
 have fmt:=ht.fm (by omega) (by omega)
 have fma:=ha.fm (by omega) (by omega)
 have gX:Gd (bE (aG 2 0 t) fun t'=>bE (aG 2 0 a) fun a'=>dJ t' a' (vN 1) (vN 0)):=cG (de fmt) fun _ _=>cG (de fma) fun _ h=>by
  have hh:=Fy (by omega) fma h
  exact cG (de hh) fun _ _=>cG (de fm_v0) fun _ _=>cG (de fm_v1) fun _ _=>io (by decide) _
 have fX: ∀x,(bE (aG 2 0 t) fun t'=>bE (aG 2 0 a) fun a'=>dJ t' a' (vN 1) (vN 0))= .ok x→Fd2 153 1809 x:=fun x h=>by
  obtain ⟨t',h1,h⟩:=aM h
  obtain ⟨a',h2,h⟩:=aM h
  exact sh (by omega) (by omega) (ht.up (by omega) h1) (ha.up (by omega) h2) (jl (by omega) (by omega) (.inr rfl)) (jl (by omega) (by omega) (.inl rfl)) h
 have hF: ∀g:Tm→Option S,lS k (rE (aG 2 0 t)) (rE (aG 2 0 a)) (.mk 1 1 ByteArray.empty [] [] []) (.mk 1 0 ByteArray.empty [] [] []) g=_:=fun g=>Mv hk (de fmt) (de fma) (fun _ h=>Fy (by omega) fma h) fm_v1 fm_v0 g
 have hC: ∀g:Tm→Option S,lR k (rE (bE (aG 2 0 t) fun t'=>bE (aG 2 0 a) fun a'=>dJ t' a' (vN 1) (vN 0))) g=_:=fun g=>Mt hk gX (fun x h=>(fX x h).fm (by omega) (by omega)) g
 have gC:Gd (bE (bE (aG 2 0 t) fun t'=>bE (aG 2 0 a) fun a'=>dJ t' a' (vN 1) (vN 0)) d7):=cG gX fun x h=>by
  have hh:=(fX x h).fm (by omega) (by omega)
  exact cG (de hh) fun _ _=>cG (de hh) fun _ _=>io (by decide) _
 have h4: ∀g:Tm→Option S,cv k 4 t (rE (aG 1 0 a)) g=g (rE (bE (aG 1 0 a) fun b=> .ok (aH 4 [t,b]))):=fun g=>mQ hk (x:= .ok t) (kz fmt.rows.no.2.2) (de fma) g
 have h4': ∀g:Tm→Option S,cv k 4 (rE (aG 1 0 a)) (rE (bE (bE (aG 2 0 t) fun t'=>bE (aG 2 0 a) fun a'=>dJ t' a' (vN 1) (vN 0)) d7)) g=_:=fun g=>mQ hk (de fma) gC g
 have h7: ∀g:Tm→Option S,cv k 7 (rE (bE (aG 1 0 a) fun b=> .ok (aH 4 [t,b]))) (rE (bE (aG 1 0 a) fun x=>bE (bE (bE (aG 2 0 t) fun t'=>bE (aG 2 0 a) fun a'=>dJ t' a' (vN 1) (vN 0)) d7) fun b=> .ok (aH 4 [x,b]))) g=_:=
  fun g=>mQ hk (cG (de fma) fun _ _=>io (by decide) _) (cG (de fma) fun _ _=>cG gC fun _ _=>io (by decide) _) g
 simp only [rG,O6,ah hk.fu,aD,mS hk fma (show (0:Int)≤1∧(1:Int)≤1000000000 by omega) (show (0:Int)≤0∧(0:Int)<9223372036854775808 by omega),
  mS hk fmt (show (0:Int)≤2∧(2:Int)≤1000000000 by omega) (show (0:Int)≤0∧(0:Int)<9223372036854775808 by omega),mS hk fma (show (0:Int)≤2∧(2:Int)≤1000000000 by omega) (show (0:Int)≤0∧(0:Int)<9223372036854775808 by omega),
  eF,yW,h4,hF,hC,h4',h7]
 congr 2
 unfold ij
 cases aG 1 0 a with
 |error e=>rfl
 |ok a1=>
  simp only [ao]
  cases aG 2 0 t with
  |error e=>rfl
  |ok t'=>
   simp only [ao]
   cases aG 2 0 a with
   |error e=>rfl
   |ok a'=>
    simp only [ao]
    cases dJ t' a' (vN 1) (vN 0) with
    |error e=>rfl
    |ok x=>
     simp only [ao]
     cases d7 x with
     |error e=>rfl
     |ok c=>rfl
theorem DN (hk:F3 k) {l:List Tm} {x:Except Int Tm} (hl: ∀t∈l,In k t) (hlen:l.length<1000) {F:(Tm→Option S)→Option S} (hF:bn l=0→ ∀g,F g=g (rE x)) (hx:bn l=0→(∀e,x= .error e→0<e∧e≤1000)∧ ∀t,x= .ok t→In k t∧0≤t.kind) (ret:Tm×Int→Option S):
  (jf k l fun r1=>ab (!(r1==0)) (ret (aN,r1)) (F fun r2=>jd k r2 fun r3=>ret (r3.1,r3.2)))=ret (tE (eO l x)):=by
 rw [Dz hk hl hlen,a7]
 unfold eO
 by_cases h0:bn l=0
 ·rw [decide_eq_true h0,Bool.not_true,ad,hF h0,Dy hk (hx h0).1 (hx h0).2,if_pos h0,Bj]
 ·rw [decide_eq_false h0,Bool.not_false,ae,if_neg h0];rfl
theorem DU (hk:F3 k) {l:List Tm} {x:Except Int Tm} (hx:bn l=0→ ∀t,x= .ok t→In k t):In k (tE (eO l x)).1:=by
 unfold eO
 by_cases h0:bn l=0
 ·rw [if_pos h0]
  unfold fT
  cases hh:x with
  |error e=>exact iw hk
  |ok t=>
   rw [ao]
   split
   ·exact hx h0 t hh
   ·exact iw hk
 ·rw [if_neg h0];exact iw hk
theorem G4 (hk:F3 k) {t a f y:Tm} (ht:Fm t) (ha:Fm a) (hf:Fm f) (hy:Fm y):(∀e,dJ t a f y= .error e→0<e∧e≤1000)∧ ∀x,dJ t a f y= .ok x→In k x∧0≤x.kind:=
 ⟨fun e h=>G3 h,fun x h=>⟨(sh (by omega) (by omega) ht.f2 ha.f2 hf.f2 hy.f2 h).isIn hk (by omega) (by omega),by
  obtain ⟨_,_,h⟩:=aM h
  obtain ⟨_,_,h⟩:=aM h
  obtain ⟨_,_,h⟩:=aM h
  injection h with h;subst h;exact (by decide:(0:Int)≤7)⟩⟩
theorem F4 (hk:F3 k) {t:Tm} (ht:Fm t):(∀e,d7 t= .error e→0<e∧e≤1000)∧ ∀x,d7 t= .ok x→In k x∧0≤x.kind:=
 ⟨fun e h=>F1 h,fun x h=>⟨(Aq (by omega) (by omega) ht.f2 h).isIn hk (by omega) (by omega),by
  obtain ⟨_,_,h⟩:=aM h
  obtain ⟨_,_,h⟩:=aM h
  injection h with h;subst h;exact (by decide:(0:Int)≤7)⟩⟩
theorem GW (hk:F3 k) {t a:Tm} (ht:Fd2 150 150 t) (ha:Fd2 150 150 a):(∀e,ij t a= .error e→0<e∧e≤1000)∧ ∀x,ij t a= .ok x→In k x∧0≤x.kind:=by
 refine ⟨fun e h=> ?_,fun x h=>⟨(GV (by omega) (by omega) ht ha h).isIn hk (by omega) (by omega), ?_⟩⟩
 ·rcases bm h with h|⟨_,_,h⟩
  ·exact dc h
  rcases bm h with h|⟨_,_,h⟩
  ·exact dc h
  rcases bm h with h|⟨_,_,h⟩
  ·exact dc h
  rcases bm h with h|⟨_,_,h⟩
  ·exact dc h
  rcases bm h with h|⟨_,_,h⟩
  ·exact G3 h
  rcases bm h with h|⟨_,_,h⟩
  ·exact F1 h
  ·cases h
 ·obtain ⟨_,_,h⟩:=aM h
  obtain ⟨_,_,h⟩:=aM h
  obtain ⟨_,_,h⟩:=aM h
  obtain ⟨_,_,h⟩:=aM h
  obtain ⟨_,_,h⟩:=aM h
  obtain ⟨_,_,h⟩:=aM h
  injection h with h;subst h;exact (by decide:(0:Int)≤7)
def xQ (r:List Cl):Tm:= .mk 13 0 ByteArray.empty r [aH 10 [vN 0],vN 1,aH 9 [vN 0]] []
def kA:List Tm:=[aH 5 [vN 0],aH 5 [aH 8 [aH 8 [vN 0,aH 12 [vN 0]],aH 5 [aH 12 [aH 8 [xQ [⟨1,0⟩],aH 12 [xQ [⟨3,0⟩]]]]]]]]
theorem XB (q:Nat) (ret:Int×Int×ByteArray×List Tm→Option S):qU (q+100) ret=ret (8,0,ByteArray.empty,kA):=by kernel_rfl
theorem ab0 (q:Nat) (ret:Tm→Option S):wz (q+100) ret=ret (aH 8 kA):=by kernel_rfl
theorem Xe:cx (aH 8 kA)=0:=by kernel_rfl
theorem ac9 (hk:F3 k) {t a f y:Tm} (ht:In k t) (ha:In k a) (hf:In k f) (hy:In k y) (ret:Tm×Int→Option S):wy k t a f y ret=ret (tE (eO [t,a,f,y] (dJ t a f y))):=by
 have hin: ∀x∈[t,a,f,y],In k x:=fun x hx=>by
  simp at hx
  rcases hx with rfl|rfl|rfl|rfl<;>assumption
 have hfm:bn [t,a,f,y]=0→ ∀x∈[t,a,f,y],Fm x:=fun h=>fI (fun x hx=>(hin x hx).1) h
 simp only [wy,O8,ah hk.fu,aD]
 exact DN hk hin (by simp) (F:=lS k t a f y) (fun h g=>Mv hk (T:= .ok t) (A:= .ok a) (kz (hfm h t (by simp)).rows.no.2.2) (kz (hfm h a (by simp)).rows.no.2.2) (fun x hx=>by injection hx with hx;exact hx▸hfm h a (by simp)) (hfm h f (by simp)) (hfm h y (by simp)) g)
  (fun h=>G4 hk (hfm h t (by simp)) (hfm h a (by simp)) (hfm h f (by simp)) (hfm h y (by simp))) ret
theorem ac6 (hk:F3 k) {t:Tm} (ht:In k t) (ret:Tm×Int→Option S):ww k t ret=ret (tE (eO [t] (d7 t))):=by
 have hin: ∀x∈[t],In k x:=fun x hx=>by
  simp at hx
  subst hx;exact ht
 have hfm:bn [t]=0→ ∀x∈[t],Fm x:=fun h=>fI (fun x hx=>(hin x hx).1) h
 simp only [ww,O2,ah hk.fu,aD]
 exact DN hk hin (by simp) (F:=lR k t) (fun h g=>Mt hk (X:= .ok t) (kz (hfm h t (by simp)).rows.no.2.2) (fun x hx=>by injection hx with hx;exact hx▸hfm h t (by simp)) g) (fun h=>F4 hk (hfm h t (by simp))) ret
theorem ac8 (hk:F3 k) {t a:Tm} (ht:In k t) (ha:In k a) (hst:ay t≤150) (hsa:ay a≤150) (ret:Tm×Int→Option S):wx k t a ret=ret (tE (eO [t,a] (ij t a))):=by
 have hin: ∀x∈[t,a],In k x:=fun x hx=>by
  simp at hx
  rcases hx with rfl|rfl<;>assumption
 have hfm:bn [t,a]=0→ ∀x∈[t,a],Fm x:=fun h=>fI (fun x hx=>(hin x hx).1) h
 have ft:bn [t,a]=0→Fd2 150 150 t:=fun h=>⟨ht.1,(hfm h t (by simp)).f2.2.1,by have:=ie t;omega,hst⟩
 have fa:bn [t,a]=0→Fd2 150 150 a:=fun h=>⟨ha.1,(hfm h a (by simp)).f2.2.1,by have:=ie a;omega,hsa⟩
 simp only [wx,O5,ah hk.fu,aD]
 exact DN hk hin (by simp) (F:=rG k t a) (fun h g=>acj hk (ft h) (fa h) g) (fun h=>GW hk (ft h) (fa h)) ret
theorem ace (hk:F3 k) {t u f y:Tm} (ht:In k t) (hu:In k u) (hf:In k f) (hy:In k y) (ret:Bool→Option S):AO k t u f y ret=ret true:=by
 have e0:OkT (.mk 0 0 ByteArray.empty [] [] []):=(iw hk).1
 have d0:Fd k (au (.mk 0 0 ByteArray.empty [] [] [])):=(iw hk).2.1
 have hw: ∀g:Bool→Option S,g7 k g=g true:=fun g=>Nd hk g
 simp only [AO,Oj,ah hk.fu,aD,hw]
 obtain ⟨c,hc,hs⟩:=MQ (S:=S) hk.fu ht.1 ht.2.1 hu.1 hu.2.1 e0 d0 _
 refine Eq.trans hc ?_
 cases c with
 |true=>rfl
 |false=>
  obtain ⟨s1,s2,_⟩:=hs rfl
  rw [ad]
  obtain ⟨c',hc',hs'⟩:=MQ (S:=S) hk.fu hf.1 hf.2.1 hy.1 hy.2.1 e0 d0 _
  refine Eq.trans hc' ?_
  cases c' with
  |true=>rfl
  |false=>
   rw [ad]
   have i1:In k (tE (eO [t,u,f,y] (dJ t u f y))).1:=DU hk fun h x hx=>by
    have hfm:=fI (l:=[t,u,f,y]) (fun x hx=>by
     simp at hx
     rcases hx with rfl|rfl|rfl|rfl
     ·exact ht.1
     ·exact hu.1
     ·exact hf.1
     ·exact hy.1) h
    exact ((G4 hk (hfm t (by simp)) (hfm u (by simp)) (hfm f (by simp)) (hfm y (by simp))).2 x hx).1
   have i2:In k (tE (eO [t] (d7 t))).1:=DU hk fun h x hx=>by
    have hfm:=fI (l:=[t]) (fun x hx=>by
     simp at hx
     subst hx;exact ht.1) h
    exact ((F4 hk (hfm t (by simp))).2 x hx).1
   have i3:In k (tE (eO [t,u] (ij t u))).1:=DU hk fun h x hx=>by
    have hfm:=fI (l:=[t,u]) (fun x hx=>by
     simp at hx
     rcases hx with rfl|rfl
     ·exact ht.1
     ·exact hu.1) h
    exact ((GW hk ⟨ht.1,(hfm t (by simp)).f2.2.1,by have:=ie t;omega,s1⟩ ⟨hu.1,(hfm u (by simp)).f2.2.1,by have:=ie u;omega,s2⟩).2 x hx).1
   have hsame: ∀ {z:Tm} {e:Int},In k z→ ∀g:Bool→Option S,ja k z e z e g=g true:=fun hz g=>DG hk hz _ g
   obtain ⟨q,hq⟩: ∃q,k=q+100:=⟨k-100,by have:4294968296≤k:=hk;omega⟩
   have j1: ∀g:Int×Int×ByteArray×List Tm→Option S,qU k g=g (8,0,ByteArray.empty,kA):=fun g=>by rw [hq];exact XB q g
   have j2: ∀g:Tm→Option S,wz k g=g (aH 8 kA):=fun g=>by rw [hq];exact ab0 q g
   have fmI:OkT (aH 8 kA):=by
    have hp: ∀n,0≤n∧n≤3→OkT (xQ [⟨n,0⟩]):=fun n hn=>by
     unfold xQ
     rw [OkT,okK_iff,bY]
     refine ⟨⟨by unfold aE;omega,by unfold aE;omega,by show 0<_;omega,fun c hc=> ?_,by simp,by simp,by simp⟩,fun x hx=> ?_,trivial⟩
     ·simp at hc;subst hc;exact ⟨⟨hn.1,by show n<_;omega⟩,⟨Int.le_refl 0,by show (0:Int)<_;omega⟩⟩
     ·simp at hx
      rcases hx with rfl|rfl|rfl
      ·exact oX (by omega) (by simp) fun x hx=>by simp at hx;subst hx;exact oY 0 (by omega)
      ·exact oY 1 (by omega)
      ·exact oX (by omega) (by simp) fun x hx=>by simp at hx;subst hx;exact oY 0 (by omega)
    have o1: ∀ {kd:Int} {x:Tm},0≤kd∧kd≤28→OkT x→OkT (aH kd [x]):=fun h hx=>oX h (by simp) fun y hy=>by simp at hy;subst hy;exact hx
    have o2: ∀ {kd:Int} {x z:Tm},0≤kd∧kd≤28→OkT x→OkT z→OkT (aH kd [x,z]):=fun h hx hz=>oX h (by simp) fun y hy=>by
     simp at hy
     rcases hy with rfl|rfl<;>assumption
    have v0:=oY 0 (by omega)
    exact o2 (by omega) (o1 (by omega) v0) (o1 (by omega) (o2 (by omega) (o2 (by omega) v0 (o1 (by omega) v0)) (o1 (by omega) (o1 (by omega) (o2 (by omega) (hp 1 (by omega)) (o1 (by omega) (hp 3 (by omega))))))))
   have dI:Fd k (au (aH 8 kA)):=hk.fd (Nat.le_trans (kr Xe).1 (by omega))
   simp only [acl hk ht hu hf hy,ac9 hk ht hu hf hy,hsame i1,Bool.not_true,ad,acf hk ht,ac6 hk ht,hsame i2,aci hk ht hu s1 s2,ac8 hk ht hu s1 s2,hsame i3,ae,j1,j2]
   exact (M8 (S:=S) (aH 8 kA) fmI (k:=k) _ dI).trans rfl
end Go.Proofs.YtapmagaejigpnaaGreatDoor
namespace Go.Proofs.YtapmagaejigpnaaGreatDoor
open Go PI Go.ChangeShapes Go.WideShapes Go.ChangeAt Go.RowKit
set_option linter.unusedVariables false
set_option linter.unusedSimpArgs false
set_option maxRecDepth 100000
theorem xb {k:Nat} (hk:4296016872≤k) {H:Type} {t:Tm} {d:DataW H} (h:QT t d) (hb:Rows.uptoBulk d≤1048576):In k t:=by
 have h1:=h.1
 have h2:=ie t
 exact ⟨h.2 (by omega),by unfold Fd;omega,by omega⟩
theorem Z1 {k:Nat} (hk:4296016872≤k) {o:Obj} (ho:af o) {t0:Tm} (h0:In k t0) {t1:Tm} (h1:In k t1) {t2:Tm} (h2:In k t2) {t3:Tm} (h3:In k t3):
  bW (LL o) 6 [.agg (cu ET.T t0),.agg (cu ET.T t1),.agg (cu ET.T t2),.agg (cu ET.T t3)] [] (.ret (.bool true) []):=by
 have hF:F3 k:=by unfold F3;omega
 obtain ⟨j,rfl⟩: ∃j,k=j+1:=⟨k-1,by omega⟩
 obtain ⟨out,hout,hx⟩:=ad8 (S:=Out UU) o ho (j+1) [.agg (cu ET.T t0),.agg (cu ET.T t1),.agg (cu ET.T t2),.agg (cu ET.T t3)] [] some (.ret (.bool true) []) (by
  cases t0;cases t1;cases t2;cases t3
  exact Eq.trans (by kernel_rfl) (ace hF h0 h1 h2 h3 fun r=>some (Out.ret (U:=UU) (.bool r) [])))
 injection hx with hx
 exact hx▸hout
theorem Z0 (H:Type) (enc:TypeId×Value→H) (W:World) (base:Nat) (args:Array Value) (ds gs:List (DataW H)) (before:List MemPlace)
  (hval: ∀ (j:Nat) t v,Tryz.f6.params[j]? =some t→args[j]? =some v→Value.okWide Tryz.prog W .any base t v)
  (hW:DataW.Whole enc Tryz.prog Tryz.f6.params.toList Rows.buildTypesSpec.vars false W args.toList ds gs before) (hL:laidMetH Tryz.prog Rows.buildTypesRow.laid W) (hb:Rows.uptoBulkAll (ds++gs)≤1048576):
  Calls Tryz.prog 6 args W fun e W'=> ∃v,e= .returned v∧Rows.buildTypesSpec.post enc Tryz.prog Tryz.f6 false true false false W args v W':=by
 have hW':=hW
 obtain ⟨p,q,hA0,hV,rfl,hfz,hnd⟩:=hW
 have hA:DataW.TrodAll enc Tryz.prog W 0 (fun _=>true) true Tryz.f6.params.toList args.toList ds p:=hA0
 rw [Tryz.params6] at hA hval
 obtain ⟨v0,vs0,d0,ds0,p0,q0,hargs,rfl,rfl,h0,r0⟩:=trodAll_cons hA
 obtain ⟨v1,vs1,d1,ds1,p1,q1,rfl,rfl,rfl,h1,r1⟩:=trodAll_cons r0
 obtain ⟨v2,vs2,d2,ds2,p2,q2,rfl,rfl,rfl,h2,r2⟩:=trodAll_cons r1
 obtain ⟨v3,vs3,d3,ds3,p3,q3,rfl,rfl,rfl,h3,r3⟩:=trodAll_cons r2
 obtain ⟨rfl,rfl,rfl⟩:=trodAll_nil r3
 obtain rfl:args= #[v0,v1,v2,v3]:=by cases args;simp_all
 obtain ⟨rfl,rfl⟩:=trodVars_none hV
 obtain ⟨o,ho,hh⟩:=ad2 hL
 simp only [List.append_nil,Rows.uptoBulkAll,Nat.add_zero] at hb
 obtain ⟨t0,e0,k0⟩:=t7 (o:=o) (g:=gB UU 0 fun _=>0) xD h0
 obtain ⟨t1,e1,k1⟩:=t7 (o:=o) (g:=gB UU 0 fun _=>0) xD h1
 obtain ⟨t2,e2,k2⟩:=t7 (o:=o) (g:=gB UU 0 fun _=>0) xD h2
 obtain ⟨t3,e3,k3⟩:=t7 (o:=o) (g:=gB UU 0 fun _=>0) xD h3
 have hk:(4296016872:Nat)≤4296016872:=Nat.le_refl _
 generalize hkk:(4296016872:Nat)=k at hk
 have hok:=Z1 (k:=k) (by omega) ho (xb (by omega) k0 (by omega)) (xb (by omega) k1 (by omega)) (xb (by omega) k2 (by omega)) (xb (by omega) k3 (by omega))
 refine (UI hok (Xx hh rfl rfl fun j p hj=> ?_)).mono ?_
 ·match j,hj with
  |0,hj=>cases hj;exact e0
  |1,hj=>cases hj;exact e1
  |2,hj=>cases hj;exact e2
  |3,hj=>cases hj;exact e3
  |j+4,hj=>simp at hj
 ·rintro e W' ⟨rfl,hkept⟩
  refine ⟨_,rfl,aba rfl rfl (fun t ht=> ?_) rfl hW' hkept⟩
  rw [Tryz.params6] at ht
  have ht':t=26∨t=26∨t=26∨t=26:=by simpa using ht
  rcases ht' with rfl|rfl|rfl|rfl<;>exact of_decide_eq_true (by kernel_rfl)
noncomputable def BU (os:Os):World:=
 {World.holding Tryz.prog os ⟨#[],#[],[]⟩ with heap:=(World.holding Tryz.prog os ⟨#[],#[],[]⟩).heap.modify 0 fun
   | .cells _ t frozen=> .cells (Lib.deBruijn32tab.map fun n:Nat=>Value.int .u8 n).toArray t frozen
   |o=>o}
def zc:Value:= .agg #[.int .i64 0,.int .i64 0,.string ByteArray.empty,.slice none 0 0,.slice none 0 0,.slice none 0 0]
def zeroArgs:Array Value:= #[zc,zc,zc,zc]
def zb {H:Type}:DataW H:= .agg [.lit (.int .i64 0),.lit (.int .i64 0),.lit (.string []),.nil,.nil,.nil]
theorem ZX (os:Os):laidMet Tryz.prog Rows.buildTypesRow.laid ((BU os).forCall (fun _ _=>0) ⟨#[],zeroArgs,[]⟩).memory:=
 laidMet_of_run' 8 (by kernel_rfl) (by kernel_rfl)
theorem abQ (os:Os) {H:Type} (enc:TypeId×Value→H): ∃places,DataW.whole enc Tryz.prog ((BU os).forCall (fun _ _=>0) ⟨#[],zeroArgs,[]⟩).memory Tryz.f6.params.toList Rows.buildTypesSpec.vars false zeroArgs.toList 8=some ([zb,zb,zb,zb],[],places):=
 ⟨[],by kernel_rfl⟩
theorem aad (os:Os) (started:os.Started) (H:Type) (enc:TypeId×Value→H) (F:Stop.Interp):
  ReturnsInHanded {} Tryz.checked os 6 .any ((Rows.OpenSpec.upto Rows.buildTypesSpec).preRow enc Tryz.prog Tryz.f6 Rows.buildTypesUptoRow.domain false Rows.buildTypesUptoRow.laid) (((Rows.OpenSpec.upto Rows.buildTypesSpec).at F).post enc Tryz.prog Tryz.f6 false true false false):=by
 obtain ⟨places,hx⟩:=abQ os enc
 refine returnsInHanded_of_row (C:=Tryz.checked) (s:=Rows.OpenSpec.upto Rows.buildTypesSpec) own started (by kernel_rfl) Tryz.func6
  (witness_row_at (enc:=enc) (C:=Tryz.checked) false (BU os) zeroArgs rfl (by kernel_rfl) (by kernel_rfl) (by kernel_rfl)
   (OpenSpec.preRow_of_cond 8 hx (by kernel_rfl) (fun k hk=>by cases hk;kernel_rfl) (by kernel_rfl) (ZX os))) ?_
 intro W base args ds gs before hval hW _ hcond _ hL _ _
 exact Z0 H enc W base args ds gs before hval hW hL (of_decide_eq_true (hcond _ rfl))
theorem adp:Rows.BuildTypesUptoSaid:=
 OpenClaim.holds_of_cond 6 Tryz.f6 rfl rfl rfl rfl rfl rfl rfl ⟨rfl,rfl,rfl,rfl,rfl⟩ rfl rfl rfl rfl rfl (by kernel_rfl) Tryz.func6 (by kernel_rfl)
  (of_decide_eq_true (by kernel_rfl)) (by unfold Func.isWrapper;first|(rw [if_pos (by decide+kernel)];kernel_rfl)|(rw [if_neg (by decide+kernel)];exact ⟨rfl,rfl⟩))
  (fun os started H enc _ F=>by rw [OpenClaim.pre_eq_preRow];exact aad os started H enc F)
theorem plain (f:FuncId) (fn:Func) (hf:Tryz.pinned.checked.prog.funcNamed "hypercube/hypercubelaw15.BuildTypes" =some f) (hfn:Tryz.pinned.checked.prog.funcs[f]? =some fn):
  true=Tryz.pinned.checked.prog.looks []∧ ∀ (j:Nat) t,fn.params[j]? =some t→Tryz.pinned.checked.prog.wantsStandIn t=false:=by
 obtain rfl:f=6:=Option.some.inj ((show Tryz.prog.funcNamed "hypercube/hypercubelaw15.BuildTypes" =some 6 by kernel_rfl).symm.trans hf)|>.symm
 obtain rfl:fn=Tryz.f6:=(Option.some.inj (Tryz.func6.symm.trans hfn)).symm
 refine ⟨by kernel_rfl,fun j t ht=> ?_⟩
 rw [Tryz.params6] at ht
 have ht':t=26∨t=26∨t=26∨t=26:=by simpa using Array.mem_of_getElem? ht
 rcases ht' with rfl|rfl|rfl|rfl
 ·exact (show Tryz.prog.wantsStandIn 26=false by kernel_rfl)
 ·exact (show Tryz.prog.wantsStandIn 26=false by kernel_rfl)
 ·exact (show Tryz.prog.wantsStandIn 26=false by kernel_rfl)
 ·exact (show Tryz.prog.wantsStandIn 26=false by kernel_rfl)
theorem buildTypes_holds:Rows.BuildTypesUptoCardSaid:=
 Claim7.holds_tied_plain_at .later [] _ _ _ _ adp (fun _ h=>by cases h) (by kernel_rfl) (fun _ h=>by cases h) buildTypesUpto_row_tie rfl ⟨rfl,rfl⟩ (by kernel_rfl) rfl plain (by kernel_rfl)
#print axioms buildTypes_holds
end Go.Proofs.YtapmagaejigpnaaGreatDoor
