/- Part 5 of a proof: the sources, with their names and remarks, lie in wip/. -/
import Derived.Test.YtgmmefmmnakbpaaGreatDoorX4
import Derived.KernelRfl
open Bool renaming and_eq_true→anZ,not_false→aqD,not_true→aq6
open ByteArray renaming empty→alH
open Eq renaming trans→alQ
open Go.IntKind renaming wrap→su
open Int renaming toNat→arM,toNat_natCast→asG
open List renaming all_eq_true→ars,append_nil→arE,getElem?_eq_getElem→arN,length_cons→aq5,mem_append→atc,mem_cons→arH,mem_map→arR,nil_append→as2
open Nat renaming le_trans→aru,mul_le_mul_right→arA,zero_add→asW
open Option renaming bind→asP,bind_some→sf
set_option linter.unusedVariables false
set_option linter.unusedSimpArgs false
namespace Go.Proofs.YtgmmefmmnakbpaaGreatDoor
open Go PI
set_option maxRecDepth 20000
variable {S:Type} {k:Nat}
def yw (i:Int):Int->LC->LC:=fun d f=>ac2 (i+d) f
def foX (i:Int) (r:LC) (fa:Bool):dC:=as6 (acJ i r fa) (yw i)
theorem uz (i:Int) (r:LC) (fa:Bool) (d:Int) (f:LC):foX i r fa d f=bE (acJ i r fa d f) fun m=> .ok (ac2 (i+d) m):=rfl
theorem pR {i:Int} {r:LC} {fa:Bool}: ∀d f e,foX i r fa d f= .error e->0<e/\e<=1000:=fun d f e h=>by
 rw [uz] at h
 rcases be h with h|⟨_,_,h⟩
 ·exact Bu h
 simp_all
section
variable {hd:Tm->Int->LC->Int->Bool->(Tm->OS S)->OS S} {i d:Int} {r:LC} {t:Tm}
end
def ame (i:Int) (r:LC) (t:Tm):Except Int Tm:=bE (NF (agS r i 1)) fun s=>ab7 (foX i s false) (foX i s true) 0 t
theorem awV {i:Int} {r:LC} {t:Tm} {e:Int} (h:ame i r t= .error e):0<e/\e<=1000:=by
 rcases be h with h|⟨s,_,h⟩
 ·grind [ayM,q_,EN]
 ·exact jK pR pR t h
theorem TZ {i:Int} {r:LC} {t y:Tm} (h:ame i r t= .ok y):y.kind=t.kind:=by
 obtain ⟨s,_,h⟩:=i8 h
 exact Ja h
theorem Ra (hk:F3 k) {t:Tm} (j:Fm t) {i:Int} (A:0<=i/\i<24) {r:LC} (q:RF r) (I:Tm×Int->OS S):m_ k t i r I=I (tE (ame i r t)):=by
 have W:=q.len
 have L:=j.dep
 simp only [m_,ag hk.fu,ar,DM,amv j.ok (j.fd hk) (show am t<1099511627776 by omega),j.2,ai7 hk.fu,rH hk.fu q.2 q.lt,q.right,decide_eq_true A,vX hk.fu q.2 (show r.length<1073741824 by omega) (show aG i by unfold aG;omega) (show aG 1 by unfold aG;omega),DF,DG,DH,DE]
 rw [show ((0:Int)==0)=true from rfl,aq6,n3,n3,n3,n3]
 rw [amt _ I]
 unfold ame
 rw [AS]
 by_cases z:(agS r i 1).2=0
 ·have hs:=kQ z
  rw [bG,decide_eq_true z,aq6,n3,jF z,aP,ahW A hs t j.ok j.rows _ (j.fd hk) (by omega) (by omega)]
  refine alQ (anT (α:=OS S) (β:=Unit) _ (fun e he=>jK jD jD t he) (fun x=>dT k x 0 i fun J=>I (J.1,J.2)) fun e=>I (noT,e)) ?_
  have B:=alm (fo:=acJ i (agS r i 1).1 false) (fa:=acJ i (agS r i 1).1 true) (G:=yw i) (fun d f g hf h=>rB hf h) (fun d f hf=>JE hf) t 0 j.rows
  show _=eE (ab7 (as6 (acJ i (agS r i 1).1 false) (yw i)) (as6 (acJ i (agS r i 1).1 true) (yw i)) 0 t) _ _
  rw [<-B,AS]
  refine ad3 (fun x M=> ?_) fun e _=>rfl
  have O:=Uj (fun d f g hf h=>rB hf h) (fun d f g hf h=>rB hf h) (fun d=>QI) t 0 x M
  obtain ⟨Y,w2,w3,T⟩:=O
  obtain ⟨E,F⟩:=T j.ok j.rows
  rw [aar A x E F _ (hk.fd (by omega)) (by omega) (by omega)]
  exact amt _ I
 ·rw [bG,decide_eq_false z,aqD,ae,iO z];rfl
def In (k:Nat) (t:Tm):Prop:=OkT t/\Fd k (am t)/\au t<1099511627776
theorem In.dep {t:Tm} (h:In k t):am t<1099511627776:=by have:=zG t;have:=h.2.2;omega
theorem Fm.isIn {t:Tm} (h:Fm t) (hk:F3 k):In k t:=⟨h.ok,h.fd hk,by have:=h.siz;omega⟩
def alE:LT->Int
 |[]=>0
 |t::l=>if bw t=0 then alE l else bw t
theorem avl {l:LT} (hl: ∀t∈l,OkT t) (h:alE l=0): ∀t∈l,Fm t:=by
 induction l with
 |nil=>simp
 |cons x l q=>
  intro t ht
  unfold alE at h
  split at h
  ·next j=>
   rcases arH.1 ht with rfl|ht
   ·exact ⟨hl _ (by simp),j⟩
   grind
  omega
theorem aki (l:LT):0<=alE l/\alE l<=1000:=by
 induction l with
 |nil=>grind [alE]
 |cons x l h=>
  unfold alE
  split<;>simp_all [Et]
theorem rI (c e:Int) (I:Int->OS S):iZ k e c I=I (if c=0 then e else c):=by
 grind [iZ,aY]
theorem aem (hk:Fu k) (I:Int->OS S) {l:LT} (hl: ∀t∈l,In k t) (hlen:l.length<1000):
  ∀ (r p:LT) (m:Nat) (b:Int),l=p++r->r.length<m->pY k I l m b (p.length:Int)=I (if b=0 then alE r else b):=by
 intro r
 induction r with
 |nil=>
  grind [amr,pY,wL,n3,alE]
 |cons x r z=>
  intro p m b h A
  obtain ⟨m,rfl,j⟩:=amr A
  obtain ⟨B,E,F,J⟩:=apy h (by omega)
  have q:=hl x (by grind)
  simp only [pY,wL,B,ae,E,sf,ag hk,ar,amv q.1 q.2.1 q.dep,rI,F,z (p++[x]) m _ J j,alE]
  grind
theorem Re (hk:F3 k) {l:LT} (hl: ∀t∈l,In k t) (hlen:l.length<1000) (I:Int->OS S):m9 k l I=I (alE l):=by
 simp only [m9,Hs]
 have:=aem hk.fu I hl hlen l [] k 0 rfl (by omega)
 simp_all
def di (r:LC) (line:Tm):Except Int Tm:=bE (acr 0 2 0 1 line) (ame 0 r)
theorem li {r:LC} {t:Tm} {e:Int} (h:di r t= .error e):0<e/\e<=1000:=by
 rcases be h with h|⟨s,_,h⟩
 ·exact amo t h
 ·exact awV h
theorem acW {i:Int} {r:LC} {fa:Bool} {d:Int} {f g:LC} (hf:RF f) (h:foX i r fa d f= .ok g):RF g:=by
 rw [uz] at h
 obtain ⟨m,h1,h⟩:=i8 h
 injection h with h;subst h
 exact aad (rB hf h1).len
theorem acV {i:Int} {r:LC} {fa:Bool} (d:Int):foX i r fa d []= .ok []:=by
 rw [uz,QI,aD];rfl
theorem T0 {i:Int} {r:LC} {t y:Tm} (h:ame i r t= .ok y):Wk t y:=by
 obtain ⟨s,_,h⟩:=i8 h
 grind [Uj,acW,acV]
theorem Jo {r:LC} {t y:Tm} (j:Fm t) (h:di r t= .ok y):OkT y/\RowsT y/\am y<=200/\au y<=20000:=by
 obtain ⟨s,h1,h⟩:=i8 h
 have hs:=jr (by omega) j h1
 obtain ⟨x,z,A,q⟩:=T0 h
 have B:=q hs.ok hs.rows
 have:=hs.dep;have:=hs.siz
 grind
section
variable {c:Int}
theorem aIy (hc:c≠0) (hk:F3 k) (f:LC) (I:LC×Int->OS S):tA k f c I=I ([],c):=by
 simp only [tA,ag hk.fu,de,bG,decide_eq_false hc,aqD,ae]
theorem aDb (hc:c≠0) (hk:F3 k) (f g:LC) (I:LC×Int->OS S):auH k f g c I=I ([],c):=by
 simp only [auH,ag hk.fu,de,bG,decide_eq_false hc,aqD,ae]
theorem ai2 (hc:c≠0) (hk:F3 k) (l:Tm) (r:LC) (I:Tm×Int->OS S):lr k l r c I=I (noT,c):=by
 simp only [lr,ag hk.fu,de,bG,decide_eq_false hc,aqD,ae];rfl
theorem Hh (hc:c≠0) (hk:F3 k) (l:Tm) (a b:Int) (I:Tm×Int->OS S):arP k l a b c I=I (noT,c):=by
 simp only [arP,ag hk.fu,de,bG,decide_eq_false hc,aqD,ae];rfl
theorem rG (hc:c≠0) (hk:F3 k) (l:Tm) (I:Tm×Int×Int->OS S):eQ k l c I=I (noT,c,c):=by
 simp only [eQ,ag hk.fu,de,bG,decide_eq_false hc,aqD,ae,n3];rfl
end
theorem ajX (hk:F3 k) {f:LC} (hf:aq f) (hl:f.length<1073741824) (I:LC×Int->OS S):tA k f 0 I=I (agS f 0 1):=by
 simp only [tA,ag hk.fu,de,vX hk.fu hf hl (show aG 0 by unfold aG;omega) (show aG 1 by unfold aG;omega),rI,if_true]
 rfl
theorem aIx (hk:F3 k) {f g:LC} (hf:aq f) (h:aq g) (h1:f.length<1073741824) (h2:g.length<1073741824) (I:LC×Int->OS S):auH k f g 0 I=I (EQ f g):=by
 simp only [auH,ag hk.fu,de,aH8 hk.fu hf h h1 h2,rI,if_true]
 rfl
theorem RW (hk:F3 k) {t:Tm} (h:Fm t) {a b:Int} (ha:0<=a/\a<=1000000) (hb:0<=b/\b<9223372036854775808) (I:Tm×Int->OS S):arP k t a b 0 I=I (tE (J6 a b t)):=by
 simp only [arP,ag hk.fu,de,ar,He hk h ha hb,rI,if_true]
 rfl
theorem Rd (hk:F3 k) {t:Tm} (h:Fm t) {r:LC} (x:RF r) (I:Tm×Int->OS S):lr k t r 0 I=I (tE (di r t)):=by
 simp only [lr,ag hk.fu,de,ar,Rr hk h (show (0:Int)<=1/\(1:Int)<=24 by omega) (show (0:Int)<=2/\(2:Int)<9223372036854775808 by omega),rI,if_true]
 rw [show ((0:Int)==0)=true from rfl,aq6,n3,amt _ I]
 unfold di
 rw [AS]
 cases j:acr 0 2 0 1 t with
 |error e=>
  have:=amo t j
  show ab (!(e==0)) (I (noT,e)) _=_
  rw [bG,decide_eq_false (by omega),aqD,ae];rfl
 |ok y=>
  have z:=jr (by omega) h j
  show ab (!((0:Int)==0)) _ (m_ k y 0 r fun q=>I (q.1,if (0:Int)=0 then q.2 else 0))=_
  simp_all [n3,Ra,aP,amt]
theorem ai9 (hk:F3 k) {t:Tm} (h:In k t) (I:Tm×Int×Int->OS S):eQ k t 0 I=I (if bw t=0 then (t,0,0) else (noT,bw t,bw t)):=by
 simp only [eQ,ag hk.fu,de,ar,amv h.1 h.2.1 h.dep,rI,if_true]
 rw [show ((0:Int)==0)=true from rfl,ae,bG]
 by_cases j:bw t=0
 ·grind [n3]
 ·rw [decide_eq_false j,if_neg j,aqD,ae];rfl
def awh (line:Tm) (phi:LC) (a:Tm) (en:Cl) (r:LC):Except Int Tm:=
 bE (NF (agS phi 0 1)) fun f1=>bE (NF (EQ f1 [en])) fun f=>bE (di r line) fun l=>bE (J6 0 1 a) fun a'=> .ok (.mk 14 0 alH f [l,a'] [])
def al_ (x:Except Int Tm):Except Int Tm:=bE x fun t=>if bw t=0 then .ok t else .error (bw t)
def aso (line:Tm) (phi:LC) (a:Tm) (en:Cl) (r:LC):Except Int Tm:=
 if alE [line,a]=0 then if cV phi then al_ (awh line phi a en r) else .error 2 else .error (alE [line,a])
theorem aGg (f g:LC):EN (EQ f g).2:=by
 grind [EQ,ES,lO]
theorem aGh {f g:LC} (hf:aq f) (j:aq g) (h:(EQ f g).2=0):RFa (EQ f g).1:=by
 grind [EQ,Af,oB]
theorem T2 {z:LC×Int} (j:EN z.2) {e:Int} (h:NF z= .error e):0<e/\e<=1000:=by
 grind [ayM,EN]
theorem aES {line:Tm} {phi:LC} {a:Tm} {en:Cl} {r:LC} {e:Int} (h:awh line phi a en r= .error e):0<e/\e<=1000:=by
 rcases be h with h|⟨_,_,h⟩
 ·exact T2 (q_ _ _ _) h
 rcases be h with h|⟨_,_,h⟩
 ·exact T2 (aGg _ _) h
 rcases be h with h|⟨_,_,h⟩
 ·exact li h
 rcases be h with h|⟨_,_,h⟩
 ·exact al3 h
 simp_all
theorem aAH (hk:F3 k) {line:Tm} {phi:LC} {a:Tm} {en:Cl} {r:LC} (hl:Fm line) (ha:Fm a) (hp:RF phi) (he:aX en) {t:Tm} (h:awh line phi a en r= .ok t):In k t/\t.kind=14:=by
 obtain ⟨f1,h1,h⟩:=i8 h
 obtain ⟨f,h2,h⟩:=i8 h
 obtain ⟨l,x,h⟩:=i8 h
 obtain ⟨a',z,h⟩:=i8 h
 injection h with h;subst h
 obtain ⟨g1,rfl⟩:=rR h1
 obtain ⟨g2,rfl⟩:=rR h2
 have q:=kQ g1
 have hf:=(aGh q.2 (fun c hc=>by grind) g2).1
 obtain ⟨A,B,E,F⟩:=Jo hl x
 have j:=mD (by omega) ha z
 have:=hf.len;have:=j.dep;have:=j.siz
 refine ⟨⟨?_,hk.fd ?_, ?_⟩,rfl⟩
 ·rw [OkT,aZ,aZ,aZ,ba]
  refine ⟨⟨by unfold aG;omega,by unfold aG;omega,by simp,hf.2,by omega,by simp,by simp⟩,⟨A,j.ok,trivial⟩,trivial⟩
 all_goals grind [am,aH,aO,au,ay,aI]
theorem aC6 (hk:F3 k) {line a:Tm} {phi r:LC} {en:Cl} (hl:In k line) (ha:In k a) (hp:aq phi) (L:phi.length<1073741824) (he:aX en) (hr:RF r) (I:Tm×Int->OS S):awn k line phi a en r I=I (tE (aso line phi a en r)):=by
 have q: ∀t∈[line,a],In k t:=fun t Y=>by
  grind
 have M:aq [en]:=fun c hc=>by grind
 have bad: ∀c:Int,c≠0->(tA k phi c fun r4=>auH k r4.1 [en] r4.2 fun r5=>lr k line r r5.2 fun r6=>arP k a 0 1 r6.2 fun r7=>
   arj k 14 [r6.1,r7.1] fun F=>eQ k (Tm.mk F.1 F.2.1 F.2.2.1 r5.1 F.2.2.2 []) r7.2 fun r9=>I (r9.1,r9.2.1))=I (noT,c):=by
  simp_all [arj,aIy,aDb,ai2,Hh,rG]
 simp only [awn,ag hk.fu,ar,Re hk q (by simp),Hb hk.fu hp (show phi.length<2147483648 by omega),rI]
 unfold aso
 by_cases x:alE [line,a]=0
 ·simp only [x,if_true]
  have z:=avl (fun t Y=>(q t Y).1) x
  have A:=z line (by simp)
  have B:=z a (by simp)
  cases O:cV phi with
  |false=>
   rw [aqD,ae,if_neg (show ¬ (false=true) by decide)]
   exact bad 2 (by decide)
  |true=>
   have T:=(oB hp).1 O
   rw [aq6,n3,if_pos (show true=true from rfl),ajX hk hp L,amt _ I]
   unfold al_
   rw [AS]
   have j: ∀t,awh line phi a en r= .ok t->In k t:=fun t h=>(aAH hk A B T.1 he h).1
   revert j
   unfold awh
   intro j
   by_cases h1:(agS phi 0 1).2=0
   ·have E:=kQ h1
    have W:=E.len
    rw [jF h1,aD] at j ⊢
    rw [h1,aIx hk E.2 M (by omega) (by simp)]
    by_cases h2:(EQ (agS phi 0 1).1 [en]).2=0
    ·rw [jF h2,aD] at j ⊢
     rw [h2,Rd hk A hr]
     cases h3:di r line with
     |error e=>
      have hc:=(li h3).1
      show arP k a 0 1 e _=I (noT,e)
      grind [arj,Hh,rG]
     |ok l=>
      rw [h3,aD] at j
      show arP k a 0 1 0 _=_
      rw [RW hk B (by omega) (by omega),aD]
      cases h4:J6 0 1 a with
      |error e=>
       have hc:=(al3 h4).1
       show arj k 14 _ _=I (noT,e)
       simp only [arj]
       show eQ k _ e _=_
       grind [rG]
      |ok a'=>
       rw [h4,aD] at j
       show arj k 14 _ _=_
       simp only [arj]
       show eQ k (Tm.mk 14 0 alH (EQ (agS phi 0 1).1 [en]).1 [l,a'] []) 0 _=_
       rw [ai9 hk (j _ rfl),aD,aP]
       by_cases J:bw (Tm.mk 14 0 alH (EQ (agS phi 0 1).1 [en]).1 [l,a'] [])=0
       ·rw [if_pos J,if_pos J];rfl
       ·rw [if_neg J,if_neg J];rfl
    ·rw [iO h2]
     show _=I (noT,(EQ (agS phi 0 1).1 [en]).2)
     grind [arj,ai2,Hh,rG]
   ·rw [iO h1]
    show _=I (noT,(agS phi 0 1).2)
    simp_all [arj,aDb,ai2,Hh,rG]
 ·simp only [if_neg x]
  cases cV phi with
  |false=>rw [aqD,ae];exact bad _ x
  |true=>rw [aq6,n3];exact bad _ x
end Go.Proofs.YtgmmefmmnakbpaaGreatDoor
namespace Go.Proofs.YtgmmefmmnakbpaaGreatDoor
open Go PI
set_option maxRecDepth 100000

set_option maxRecDepth 20000
variable {S:Type} {k:Nat}
theorem Rh {l:LC} (hl:l.length<1073741824) (I:LC->OS S):rj l I=I l:=by
 grind [rj,J5]
section
variable {hd:Tm->(Tm->OS S)->OS S}
theorem aev (hk:Fu k) (I:LT->OS S) {l:LT} (x: ∀y∈l,∀g,hd y g=g y) (hl:l.length<1073741824):
  ∀ (r p:LT) (m:Nat),l=p++r->r.length<m->av5 hd k I l m p (p.length:Int)=I l:=by
 intro r
 induction r with
 |nil=>
  grind [amr,av5,yf,n3]
 |cons y r z=>
  intro p m h j
  obtain ⟨m,rfl,q⟩:=amr j
  obtain ⟨A,B,E,F⟩:=apy h (by omega)
  grind [av5,yf,ae,ar,J5]
theorem Ri (hk:Fu k) {l:LT} (h: ∀y∈l,∀g,hd y g=g y) (hl:l.length<1073741824) (I:LT->OS S):ui hd k l I=I l:=by
 simp only [ui,IS]
 exact aev hk I h hl l [] k rfl (by omega)
theorem aew (hk:Fu k) (I:Tm->OS S) {t:Tm} (q:OkT t) (z: ∀b∈t.sys,∀y∈b.kids,∀g,hd y g=g y) (r1:LC) (r2:LT):
  ∀ (r p:LB) (m:Nat),t.sys=p++r->r.length<m->qQ hd k I t r1 r2 m p (p.length:Int)=I (.mk t.kind t.n t.name r1 r2 t.sys):=by
 obtain ⟨M,O,T,W,Y,o6,o7⟩:=q.no
 intro r
 induction r with
 |nil=>
  grind [amr,qQ,ye,n3]
 |cons y r A=>
  intro p m h B
  obtain ⟨m,rfl,j⟩:=amr B
  obtain ⟨E,F,J,L⟩:=apy h (by omega)
  have x:y∈t.sys:=by grind
  have hb:=(q.bi x).1
  have hlen:p.length+r.length+1=t.sys.length:=by grind
  simp only [qQ,ye,E,ae,F,sf,ar,J,Rh hb.2.1,ag hk,Ri hk (z y x) hb.2.2]
  rw [J5 (by grind)]
  have:=A (p++[y]) m L j
  omega
end
theorem vU (t:Tm):OkT t-> ∀ {k:Nat} (I:Tm->OS S),Fd k (am t)->dJ k t I=I t:=by
 induction t using c7 with
 |h t z A=>
  intro x k I hk
  obtain ⟨q,rfl,B,hf⟩:=hk.pos' (alF t)
  obtain ⟨J,L,M,O,E,F,T⟩:=x.no
  simp only [dJ,IP,Rh E,ag B,Ri B (fun y j g=>z y j (x.ki j) g (hf _ (bY j))) F]
  have:=aew B I x (fun b hb y j g=>A b hb y j ((x.bi hb).2 y j) g (hf _ (b8 hb j))) t.r t.kids t.sys [] q rfl (by omega)
  refine alQ this ?_
  cases t;rfl
theorem ahz {v d d':Int} (h:24<=d) (h':24<=d') (t:Tm):cL v d t=cL v d' t:=by
 have hb: ∀kd,bX kd d=bX kd d':=fun kd=>by grind [bX,Av]
 simp_all [cL,Av]
theorem at8 (t:Tm): ∀ {v d d':Int},24<=d->24<=d'->aqp false v d t=aqp false v d' t:=by
 induction t using c7 with
 |h t j q=>
  intro v d d' h h'
  rw [wI,wI,ahz h h']
  have z: ∀ (l:LT) (i:Nat),(∀x∈l,x∈t.kids)->bO false v d t.kind i l=bO false v d' t.kind i l:=by
   intro l
   induction l<;>grind [bO,bJ]
  grind [wH,av]
theorem QD:RF [⟨3,0⟩]:=gS ⟨⟨by decide,by decide⟩,by decide,by decide⟩
theorem aC4:RF [⟨0,1⟩,⟨2,0⟩]:=by
 refine ⟨by rfl,fun c hc=> ?_⟩
 simp only [arH,List.not_mem_nil,or_false] at hc
 rcases hc with rfl|rfl
 ·exact ⟨⟨by decide,by decide⟩,by decide,by decide⟩
 ·exact ⟨⟨by decide,by decide⟩,by decide,by decide⟩
theorem ag0:aX ⟨0,1⟩:=⟨⟨by decide,by decide⟩,by decide,by decide⟩
theorem ag1:aX ⟨1,0⟩:=⟨⟨by decide,by decide⟩,by decide,by decide⟩
theorem aHV (hk:F3 k) {line a:Tm} {phi:LC} (hl:In k line) (ha:In k a) (hp:aq phi) (h:phi.length<1073741824) (I:Tm×Int->OS S):axs k line phi a I=I (tE (aso line phi a ⟨0,1⟩ [⟨3,0⟩])):=by
 grind [axs,ar,ag,aC6,ag0,QD]
theorem aHR (hk:F3 k) {line a:Tm} {phi:LC} (hl:In k line) (ha:In k a) (hp:aq phi) (h:phi.length<1073741824) (I:Tm×Int->OS S):axo k line phi a I=I (tE (aso line phi a ⟨1,0⟩ [⟨0,1⟩,⟨2,0⟩])):=by
 grind [axo,ar,ag,aC6,ag1,aC4]
theorem agT:OkT noT:=by
 unfold noT
 rw [OkT,aZ,ba]
 exact ⟨⟨by unfold aG;omega,by unfold aG;omega,by simp,fun c hc=>(by cases hc),by simp,by simp,by simp⟩,trivial,trivial⟩
theorem gQ (hk:F3 k):In k noT:=⟨agT,hk.fd (by grind [noT,am,aH,aO]),by grind [noT,au,ay,aI]⟩
theorem Hl (t:Tm):au t=1+ay t.kids+aI t.sys:=by cases t;rfl
def BkW (most w:Int) (n:Nat):Prop:=1<=w/\w<=2*most+1/\(w<=most->(n:Int)<=w)
def Mo (most:Int):Prop:=0<=most/\most<=1000
section
variable {hd:Tm->Int->(Int->OS S)->OS S} {t:Tm}
theorem aGM (hk:Fu k) (I:Int->OS S) (j:Int->Int->OS S) {v most:Int} (A:Mo most) {x:Br Tm} (hv:af t.sys v=some x) (E: ∀y∈x.kids,∀n,Mo n-> ∀g,∃w,hd y n g=g w/\BkW n w (au y)) (hl:x.kids.length<1073741824):
  ∀ (r p:LT) (m:Nat) (a:Int),x.kids=p++r->r.length<m->1<=a->a<=2*most+1-> ∃w,kA hd k I j t most v m a (p.length:Int)=j w (su .i64 (v+1))/\a<=w/\w<=2*most+1/\(w<=most->a+(ay r:Int)<=w):=by
 obtain ⟨F,J⟩:=A
 intro r
 induction r with
 |nil=>
  intro p m a h B ha q
  obtain ⟨m,rfl,z⟩:=amr B
  exact ⟨a,by grind [kA,xL,n3],Int.le_refl _,q,fun _=>by rw [ay];simp⟩
 |cons y r L=>
  intro p m a h B ha q
  obtain ⟨m,rfl,z⟩:=amr B
  obtain ⟨M,O,T,W⟩:=apy h (by omega)
  simp only [kA,xL,hv,M,ae,O,sf,ar,T]
  by_cases hc:a<=most
  ·rw [decide_eq_true hc,ae,aaf (show-9223372036854775808<=most-a by omega) (by omega)]
   obtain ⟨w,Y,w1,w2,w3⟩:=E y (by grind) (most-a) ⟨by omega,by omega⟩ (fun r8=>kA hd k I j t most v m (su .i64 (a+r8)) (((p++[y]).length:Nat):Int))
   rw [Y,aaf (show-9223372036854775808<=a+w by omega) (by omega)]
   obtain ⟨u,hu,u1,u2,u3⟩:=L (p++[y]) m (a+w) W z (by omega) (by omega)
   exact ⟨u,hu,by omega,u2,fun hle=>by grind [ay]⟩
  grind [n3]
theorem aGL (hk:Fu k) (I:Int->OS S) {most:Int} (j:Mo most) (M: ∀b∈t.sys,∀y∈b.kids,∀n,Mo n-> ∀g,∃w,hd y n g=g w/\BkW n w (au y)) (E:OkT t):
  ∀ (r p:LB) (m:Nat) (a:Int),t.sys=p++r->r.length<m->1<=a->a<=2*most+1-> ∃w,jl hd k I t most m a (p.length:Int)=I w/\a<=w/\w<=2*most+1/\(w<=most->a+(aI r:Int)<=w):=by
 obtain ⟨o1,o2,o3,o4,o5,o6,o7⟩:=E.no
 have O:=j.1
 have T:=j.2
 intro r
 induction r with
 |nil=>
  intro p m a h A ha q
  obtain ⟨m,rfl,z⟩:=amr A
  exact ⟨a,by grind [jl,sS,n3],Int.le_refl _,q,fun _=>by rw [aI];simp⟩
 |cons x r W=>
  intro p m a h A ha q
  obtain ⟨m,rfl,z⟩:=amr A
  obtain ⟨Y,F,J,e4⟩:=apy h (by omega)
  have L:x∈t.sys:=by grind
  have hb:=(E.bi L).1
  simp only [jl,sS,Y,ae,F,sf,J]
  by_cases hc:a<=most
  ·rw [decide_eq_true hc,ae]
   by_cases hf:((x.face.length:Nat):Int)>most
   ·grind [ae,aaf]
   ·rw [decide_eq_false hf,n3,aaf (show-9223372036854775808<=a+1 by omega) (by omega),aaf (show-9223372036854775808<=a+1+((x.face.length:Nat):Int) by omega) (by omega)]
    obtain ⟨w,B,w1,w2,w3⟩:=aGM (t:=t) (most:=most) hk I (jl hd k I t most m) j F (M x L) hb.2.2 x.kids [] k (a+1+((x.face.length:Nat):Int)) rfl (by omega) (by omega) (by omega)
    have B:kA hd k I (jl hd k I t most m) t most (p.length:Int) k (a+1+((x.face.length:Nat):Int)) 0=_:=B
    rw [B,J]
    obtain ⟨u,hu,u1,u2,u3⟩:=W (p++[x]) m w e4 z (by omega) w2
    exact ⟨u,hu,by omega,u2,fun hle=>by grind [aI,kZ]⟩
  grind [n3]
theorem aGK (hk:Fu k) (I:Int->OS S) {most:Int} (j:Mo most) (A: ∀y∈t.kids,∀n,Mo n-> ∀g,∃w,hd y n g=g w/\BkW n w (au y)) (q: ∀b∈t.sys,∀y∈b.kids,∀n,Mo n-> ∀g,∃w,hd y n g=g w/\BkW n w (au y)) (z:OkT t):
  ∀ (r p:LT) (m:Nat) (a:Int),t.kids=p++r->r.length<m->1<=a->a<=2*most+1-> ∃w,nQ hd k I t most m a (p.length:Int)=I w/\a<=w/\w<=2*most+1/\(w<=most->a+(ay r:Int)+(aI t.sys:Int)<=w):=by
 obtain ⟨o1,o2,o3,o4,o5,o6,o7⟩:=z.no
 have B:=j.1
 have E:=j.2
 intro r
 have hs:=fun a=>aGL (most:=most) hk I j q z t.sys [] k a rfl (by omega)
 induction r with
 |nil=>
  grind [amr,nQ,sR,n3,ay]
 |cons y r F=>
  intro p m a h J ha L
  obtain ⟨m,rfl,x⟩:=amr J
  obtain ⟨M,O,T,W⟩:=apy h (by omega)
  simp only [nQ,sR,M,ae,O,sf,ar,T]
  by_cases hc:a<=most
  ·rw [decide_eq_true hc,ae,aaf (show-9223372036854775808<=most-a by omega) (by omega)]
   obtain ⟨w,Y,w1,w2,w3⟩:=A y (by grind) (most-a) ⟨by omega,by omega⟩ (fun r2=>nQ hd k I t most m (su .i64 (a+r2)) (((p++[y]).length:Nat):Int))
   rw [Y,aaf (show-9223372036854775808<=a+w by omega) (by omega)]
   obtain ⟨u,hu,u1,u2,u3⟩:=F (p++[y]) m (a+w) W x (by omega) (by omega)
   exact ⟨u,hu,by omega,u2,fun hle=>by grind [ay]⟩
  grind [n3]
end
theorem aDd (t:Tm):OkT t-> ∀ {k:Nat} (most:Int),Mo most-> ∀ (I:Int->OS S),Fd k (am t)-> ∃w,gE k t most I=I w/\BkW most w (au t):=by
 induction t using c7 with
 |h t A B=>
  intro z k most j I hk
  have F:=j.1
  have J:=j.2
  obtain ⟨q,rfl,L,hf⟩:=hk.pos' (alF t)
  obtain ⟨Y,o2,o3,o4,o5,o6,o7⟩:=z.no
  have M: ∀y∈t.kids,∀n,Mo n-> ∀ (g:Int->OS S),∃w,gE q y n g=g w/\BkW n w (au y):=fun y x n hn g=>A y x (z.ki x) n hn g (hf _ (bY x))
  have E: ∀b∈t.sys,∀y∈b.kids,∀n,Mo n-> ∀ (g:Int->OS S),∃w,gE q y n g=g w/\BkW n w (au y):=fun b hb y x n hn g=>B b hb y x ((z.bi hb).2 y x) n hn g (hf _ (b8 hb x))
  simp only [gE,Io]
  have out: ∃w,I (su .i64 (most+1))=I w/\BkW most w (au t):=⟨most+1,by grind [aaf],by omega,by omega,fun h=>by omega⟩
  by_cases O:((t.r.length:Nat):Int)>most
  ·grind [ae]
  ·rw [decide_eq_false O,n3]
   by_cases hn:((t.name.size:Nat):Int)>most
   ·grind [ae]
   ·rw [decide_eq_false hn,n3,aaf (show-9223372036854775808<=1+((t.r.length:Nat):Int) by omega) (by omega),aaf (show-9223372036854775808<=1+((t.r.length:Nat):Int)+((t.name.size:Nat):Int) by omega) (by omega)]
    obtain ⟨w,T,w1,W,w3⟩:=aGK L I j M E z t.kids [] q (1+((t.r.length:Nat):Int)+((t.name.size:Nat):Int)) rfl (by omega) (by omega) (by omega)
    exact ⟨w,T,by omega,W,fun hle=>by grind [Hl]⟩
def dS (kd:Int) (l:LT):Tm:= .mk kd 0 alH [] l []
def vN (n:Int):Tm:= .mk 1 n alH [] [] []
def mE (c a b:Int) (t:Tm):Tm×Int:=if c=0 then tE (J6 a b t) else (noT,c)
def tmE (p:Tm×Int):Except Int Tm:=if p.2=0 then .ok p.1 else .error p.2
theorem wz {c a b:Int} {t:Tm} (h:c≠0):mE c a b t=(noT,c):=if_neg h
theorem ak3 {c a b:Int} {t:Tm} (h:(mE c a b t).2=0):c=0:=by
 grind [wz]
theorem T9 (a b:Int) (t:Tm):mE 0 a b t=tE (J6 a b t):=rfl
theorem RV (hk:F3 k) {c:Int} {t:Tm} (h:c=0->Fm t) {a b:Int} (ha:0<=a/\a<=1000000) (hb:0<=b/\b<9223372036854775808) (I:Tm×Int->OS S):arP k t a b c I=I (mE c a b t):=by
 by_cases hc:c=0
 ·subst hc;exact RW hk (h rfl) ha hb I
 grind [Hh,wz]
theorem Rk (hk:F3 k) {t:Tm} {c:Int} (h:c=0->In k t) (I:Tm×Int->OS S):(eQ k t c fun r=>I (r.1,r.2.1))=I (tE (al_ (tmE (t,c)))):=by
 by_cases hc:c=0
 ·subst hc
  rw [ai9 hk (h rfl)]
  show _=I (tE (al_ (.ok t)))
  unfold al_
  rw [aD]
  by_cases j:bw t=0
  ·rw [if_pos j,if_pos j];rfl
  ·rw [if_neg j,if_neg j];rfl
 ·rw [rG hc hk]
  show _=I (tE (al_ (if c=0 then _ else _)))
  rw [if_neg hc];rfl
def auJ (c:Int) (t a f y:Tm):Tm×Int:=
 (dS 7 [t,dS 11 [(mE c 1 1 a).1,(mE (mE c 1 1 a).2 1 0 y).1,dS 6 [(mE (mE (mE c 1 1 a).2 1 0 y).2 1 0 f).1,vN 0]]],(mE (mE (mE c 1 1 a).2 1 0 y).2 1 0 f).2)
def atO (t a f y:Tm):Except Int Tm:=bE (J6 1 1 a) fun a'=>bE (J6 1 0 y) fun h=>bE (J6 1 0 f) fun j=> .ok (dS 7 [t,dS 11 [a',h,dS 6 [j,vN 0]]])
theorem aA3 {c:Int} (h:c≠0) (t a f y:Tm):(auJ c t a f y).2=c:=by
 grind [auJ,wz]
theorem aA4 (t a f y:Tm):tmE (auJ 0 t a f y)=atO t a f y:=by
 unfold auJ atO
 rw [T9]
 cases h1:J6 1 1 a with
 |error e=>
  have he:e≠0:=by have:=al3 h1;omega
  show tmE (_,(mE (mE e 1 0 y).2 1 0 f).2)=_
  rw [wz he,wz he,lk];exact if_neg he
 |ok a'=>
  rw [aD]
  show tmE (dS 7 [t,dS 11 [a',(mE 0 1 0 y).1,dS 6 [(mE (mE 0 1 0 y).2 1 0 f).1,vN 0]]],(mE (mE 0 1 0 y).2 1 0 f).2)=_
  rw [T9]
  cases h2:J6 1 0 y with
  |error e=>
   have he:e≠0:=by have:=al3 h2;omega
   show tmE (_,(mE e 1 0 f).2)=_
   rw [wz he,lk];exact if_neg he
  |ok h=>
   rw [aD]
   show tmE (dS 7 [t,dS 11 [a',h,dS 6 [(mE 0 1 0 f).1,vN 0]]],(mE 0 1 0 f).2)=_
   rw [T9]
   cases j:J6 1 0 f with
   |error e=>
    have he:e≠0:=by have:=al3 j;omega
    rw [lk];exact if_neg he
   |ok q=>rfl
theorem aIa (hk:F3 k) {c:Int} {t a f y:Tm} (ha:c=0->Fm a) (hf:c=0->Fm f) (j:c=0->Fm y) (I:Int×Int×BA×LT×Int->OS S):
  au2 k t a f y c I=I (7,0,alH,(auJ c t a f y).1.kids,(auJ c t a f y).2):=by
 simp only [au2,ag hk.fu,ar,RV hk ha (show (0:Int)<=1/\(1:Int)<=1000000 by omega) (show (0:Int)<=1/\(1:Int)<9223372036854775808 by omega),
  RV hk (fun h=>j (ak3 h)) (show (0:Int)<=1/\(1:Int)<=1000000 by omega) (show (0:Int)<=0/\(0:Int)<9223372036854775808 by omega),
  RV hk (fun h=>hf (ak3 (ak3 h))) (show (0:Int)<=1/\(1:Int)<=1000000 by omega) (show (0:Int)<=0/\(0:Int)<9223372036854775808 by omega),asX,arj]
 rfl
def aE_ (t:Tm):Except Int Tm:=bE (J6 1 0 t) fun t1=>bE (J6 2 1 t) fun t2=> .ok (dS 7 [t,dS 4 [t1,dS 11 [t2,vN 1,vN 0]]])
def aFL (t a:Tm):Except Int Tm:=bE (J6 1 0 a) fun a1=>bE (J6 1 0 a) fun y=>bE (J6 2 0 t) fun h=>bE (J6 2 0 a) fun a'=>bE (atO h a' (vN 1) (vN 0)) fun x=>bE (aE_ x) fun c=> .ok (dS 7 [dS 4 [t,a1],dS 4 [y,c]])
theorem aFT {t a f y:Tm} {e:Int} (h:atO t a f y= .error e):0<e/\e<=1000:=by
 rcases be h with h|⟨_,_,h⟩
 ·exact al3 h
 rcases be h with h|⟨_,_,h⟩
 ·exact al3 h
 rcases be h with h|⟨_,_,h⟩
 ·exact al3 h
 simp_all
theorem okv (n:Int) (h:0<=n/\n<=10):OkT (vN n):=by
 unfold vN
 rw [OkT,aZ,ba]
 exact ⟨⟨by unfold aG;omega,by unfold aG;omega,by simp,fun c hc=>(by cases hc),by simp,by simp,by simp⟩,trivial,trivial⟩
theorem fm_v0:Fm (vN 0):=⟨okv 0 (by omega),by rfl⟩
theorem fm_v1:Fm (vN 1):=⟨okv 1 (by omega),by rfl⟩
theorem ag2 {kd:Int} (j:0<=kd/\kd<=28) {l:LT} (hl:l.length<10) (h: ∀x∈l,OkT x):OkT (dS kd l):=by
 unfold dS
 rw [OkT,okK_iff,ba]
 exact ⟨⟨by unfold aG;omega,by unfold aG;omega,by simp,fun c hc=>(by cases hc),by simp,by omega,by simp⟩,h,trivial⟩
theorem aAF {kd d:Int} (hd:24<=d) {l:LT} (ho:cL (-1) 24 (dS kd l)=true) (h: ∀x∈l,aqp false (-1) 24 x=true):aqp false (-1) d (dS kd l)=true:=by
 rw [at8 (dS kd l) hd (show (24:Int)<=24 by omega),wI,ho]
 have A: ∀ (r:LT) (i:Nat),(∀x∈r,aqp false (-1) 24 x=true)->bO false (-1) 24 kd i r=true:=by
  intro r
  induction r with
  |nil=>intro i _;rw [bO]
  |cons x r q=>
   intro i j
   have hb:=gr kd i
   rw [bO,q _ fun y z=>j y (by simp [z])]
   have hv:cQ (-1) (arJ kd i)= -1:=rfl
   rw [hv,at8 x (show (24:Int)<=24+bJ kd i by omega) (show (24:Int)<=24 by omega),j x (by simp)];rfl
 show (!(false&&_)&&(true&&(bO false (-1) 24 kd 0 l&&ck false (-1) 24 kd [])))=true
 grind [ck]
def Fd2 (n m:Nat) (t:Tm):Prop:=OkT t/\aqp false (-1) 24 t=true/\am t<=n/\au t<=m
theorem Fd2.fm {n m:Nat} {t:Tm} (h:Fd2 n m t) (hn:n<=200) (j:m<=20000):Fm t:=⟨h.1,pS (by have:=h.2.2.1;omega) (by have:=h.2.2.2;omega) h.2.1⟩
theorem Fd2.isIn {n m:Nat} {t:Tm} (h:Fd2 n m t) (hk:F3 k) (hn:n<=1000) (j:m<=1000000):In k t:=⟨h.1,hk.fd (by have:=h.2.2.1;omega),by have:=h.2.2.2;omega⟩
theorem Fm.f2 {t:Tm} (h:Fm t):Fd2 200 20000 t:=⟨h.1,(eU h.2).2.2,(eU h.2).1,(eU h.2).2.1⟩
theorem Fd2.mono {n m j q:Nat} {t:Tm} (h:Fd2 n m t) (hn:n<=j) (x:m<=q):Fd2 j q t:=⟨h.1,h.2.1,by have:=h.2.2.1;omega,by have:=h.2.2.2;omega⟩
theorem Fd2.up {n m:Nat} {t t':Tm} (h:Fd2 n m t) {a b:Int} (ha:0<=a/\a<=1000000000) (hl:J6 a b t= .ok t'):Fd2 n m t':=by
 obtain ⟨u,h1,h2⟩:=i8 hl
 obtain ⟨z,A,B,q⟩:=uP ha.1 ha.2 t 0 0 u h1
 obtain ⟨E,q2,F,x⟩:=uP (by omega) (by omega) u 0 0 t' h2
 have w:=q h.1
 have j:=x w.1
 have ho:=w.2.2 24 24 (by omega) (by omega) h.2.1
 exact ⟨j.1,j.2.2 24 24 (by omega) (by omega) ho,by have:=h.2.2.1;omega,by have:=h.2.2.2;omega⟩
theorem aA1 {kd:Int} (h:0<=kd/\kd<=28) {n m:Nat} {a b:Tm} (ho:cL (-1) 24 (dS kd [a,b])=true) (ha:Fd2 n m a) (hb:Fd2 n m b):Fd2 (n+1) (2*m+1) (dS kd [a,b]):=by
 grind [Fd2,ag2,aAF,dS,am,aH,aO,au,ay,aI]
theorem aFP {kd:Int} (h:0<=kd/\kd<=28) {n m:Nat} {a b c:Tm} (ho:cL (-1) 24 (dS kd [a,b,c])=true) (ha:Fd2 n m a) (hb:Fd2 n m b) (hc:Fd2 n m c):Fd2 (n+1) (3*m+1) (dS kd [a,b,c]):=by
 grind [Fd2,ag2,aAF,dS,am,aH,aO,au,ay,aI]
theorem aFV {n m:Nat} (hn:1<=n) (h:1<=m) {i:Int} (j:i=0\/i=1):Fd2 n m (vN i):=by
 have:Fd2 1 1 (vN i):=by
  rcases j with rfl|rfl
  ·exact ⟨fm_v0.1,by rfl,by show 1<=1;omega,by show 1<=1;omega⟩
  ·exact ⟨fm_v1.1,by rfl,by show 1<=1;omega,by show 1<=1;omega⟩
 exact this.mono hn h
theorem aA5 {n m:Nat} (hn:1<=n) (j:1<=m) {t a f y x:Tm} (q:Fd2 n m t) (ha:Fd2 n m a) (hf:Fd2 n m f) (z:Fd2 n m y) (h:atO t a f y= .ok x):Fd2 (n+3) (12*m+9) x:=by
 obtain ⟨a',h1,h⟩:=i8 h
 obtain ⟨B,h2,h⟩:=i8 h
 obtain ⟨E,A,h⟩:=i8 h
 injection h with h;subst h
 have c1:=aA1 (kd:=6) (by omega) (by rfl) (hf.up (by omega) A) (aFV hn j (.inl rfl))
 have c2:=aFP (kd:=11) (by omega) (by rfl) ((ha.up (by omega) h1).mono (Nat.le_succ n) (show m<=2*m+1 by omega)) ((z.up (by omega) h2).mono (Nat.le_succ n) (show m<=2*m+1 by omega)) c1
 exact (aA1 (kd:=7) (by omega) (by rfl) (q.mono (show n<=n+1+1 by omega) (show m<=3*(2*m+1)+1 by omega)) c2).mono (by omega) (by omega)
mutual
def ac4 (n:Int):Tm->Nat
 | .mk kd m _ _ h sys=>(if kd=1/\m=n then 1 else 0)+(cE n kd 0 h+cv n sys)
def cE (n kd:Int) (i:Nat):LT->Nat
 |[]=>0
 |t::l=>ac4 (n+arJ kd i) t+cE n kd (i+1) l
def cv (n:Int):LB->Nat
 |[]=>0
 |b::l=>Dv n b+cv n l
def Dv (n:Int):Br Tm->Nat
 | .mk _ h=>dc n h
def dc (n:Int):LT->Nat
 |[]=>0
 |t::l=>ac4 n t+dc n l
end
mutual
def akT (n:Int) (u:Tm) (v d:Int):Tm->Except Int Tm
 | .mk kd m q r x sys=>if kd=1/\m=n+v then J6 v d u else bE (dX n u v d kd 0 x) fun j=>bE (as9 n u v d kd sys) fun h=> .ok (.mk kd (if kd=1/\m>n+v then m-1 else m) q r j h)
def dX (n:Int) (u:Tm) (v d kd:Int) (i:Nat):LT->Except Int (LT)
 |[]=> .ok []
 |t::l=>bE (akT n u (v+arJ kd i) (d+bJ kd i) t) fun h=>bE (dX n u v d kd (i+1) l) fun j=> .ok (h::j)
def as9 (n:Int) (u:Tm) (v d kd:Int):LB->Except Int (LB)
 |[]=> .ok []
 |b::l=>bE (AJ n u v d kd b) fun h=>bE (as9 n u v d kd l) fun j=> .ok (h::j)
def AJ (n:Int) (u:Tm) (v d kd:Int):Br Tm->Except Int (Br Tm)
 | .mk f j=>bE (amj n u v d kd j) fun h=> .ok (.mk f h)
def amj (n:Int) (u:Tm) (v d kd:Int):LT->Except Int (LT)
 |[]=> .ok []
 |t::l=>bE (akT n u v (d+av kd) t) fun h=>bE (amj n u v d kd l) fun j=> .ok (h::j)
end
def ams (n:Int) (t u:Tm):Except Int Tm:=if au t+ac4 n t*(au u-1)>20000 then .error 221 else bE (akT n u 0 0 t) fun o=>if am o>200 then .error 62 else .ok o
def Pg (n:Int) (u x h:Tm):Prop:=OkT h/\aqp false (-1) 24 h=true/\au h=au x+ac4 n x*(au u-1)/\am h<=am x+am u
abbrev wF (n:Int) (u x:Tm):Prop:= ∀ {v d:Int} {o:Tm},0<=v->0<=d->v+am x<=1000->OkT x->aqp false (-1) 24 x=true->akT n u v d x= .ok o->Pg (n+v) u x o
section
variable {n v d kd:Int} {u:Tm}
theorem ahA: ∀ {l l':LT} {i:Nat},(∀x∈l,wF n u x)->0<=v->0<=d->v+aH l+1<=1000->aZ l->bO false (-1) 24 kd i l=true->dX n u v d kd i l= .ok l'->
  aZ l'/\bO false (-1) 24 kd i l'=true/\ay l'=ay l+cE (n+v) kd i l*(au u-1)/\aH l'<=aH l+am u/\l'.length=l.length:=by
 intro l
 induction l with
 |nil=>intro l' i _ _ _ _ _ _ h;rw [dX] at h;injection h with h;subst h;rw [aZ,bO,cE,ay,aH];simp
 |cons t l q=>
  intro l' i h hv hd hb ho ha hl
  rw [dX] at hl
  obtain ⟨z,A,hl⟩:=i8 hl
  obtain ⟨m,B,hl⟩:=i8 hl
  injection hl with hl;subst hl
  rw [aZ] at ho
  rw [bO,anZ] at ha
  rw [aH] at hb
  have O:=g7 kd i;have T:=gr kd i
  have j:aqp false (-1) 24 t=true:=by
   have:=ha.1
   rw [B2,at8 t (by omega) (Int.le_refl 24)] at this;exact this
  obtain ⟨E,F,I,W⟩:=h t (by simp) (v:=v+arJ kd i) (d:=d+bJ kd i) (by omega) (by omega) (by omega) ho.1 j A
  obtain ⟨J,q2,L,Y,q5⟩:=q (fun x M=>h x (by simp [M])) hv hd (by omega) ho.2 ha.2 B
  rw [aZ,bO,cE,ay,ay,aH,aH,aq5,aq5]
  refine ⟨⟨E,J⟩, ?_, ?_,by omega,by omega⟩
  ·rw [anZ,B2,at8 z (show (24:Int)<=24+bJ kd i by omega) (Int.le_refl 24)];exact ⟨F,q2⟩
  ·rw [I,L,Nat.add_mul,Int.add_assoc];omega
theorem ahB: ∀ {l l':LT},(∀x∈l,wF n u x)->0<=v->0<=d->v+aH l+1<=1000->aZ l->ca false (-1) 24 kd l=true->amj n u v d kd l= .ok l'->
  aZ l'/\ca false (-1) 24 kd l'=true/\ay l'=ay l+dc (n+v) l*(au u-1)/\aH l'<=aH l+am u/\l'.length=l.length:=by
 intro l
 induction l with
 |nil=>intro l' _ _ _ _ _ _ h;rw [amj] at h;injection h with h;subst h;rw [aZ,ca,dc,ay,aH];simp
 |cons t l q=>
  intro l' h hv hd hb ho ha hl
  rw [amj] at hl
  obtain ⟨z,A,hl⟩:=i8 hl
  obtain ⟨m,B,hl⟩:=i8 hl
  injection hl with hl;subst hl
  rw [aZ] at ho
  rw [ca,anZ] at ha
  rw [aH] at hb
  have O:=atj kd
  have j:aqp false (-1) 24 t=true:=by
   have:=ha.1
   rw [at8 t (by omega) (Int.le_refl 24)] at this;exact this
  obtain ⟨E,F,I,T⟩:=h t (by simp) (v:=v) (d:=d+av kd) (by omega) (by omega) (by omega) ho.1 j A
  obtain ⟨J,q2,L,W,Y⟩:=q (fun x M=>h x (by simp [M])) hv hd (by omega) ho.2 ha.2 B
  rw [aZ,ca,dc,ay,ay,aH,aH,aq5,aq5]
  refine ⟨⟨E,J⟩, ?_, ?_,by omega,by omega⟩
  ·rw [anZ,at8 z (show (24:Int)<=24+av kd by omega) (Int.le_refl 24)];exact ⟨F,q2⟩
  ·rw [I,L,Nat.add_mul];omega
theorem ahC: ∀ {l l':LB},(∀b∈l,∀x∈b.kids,wF n u x)->0<=v->0<=d->v+aO l+1<=1000->ba l->ck false (-1) 24 kd l=true->as9 n u v d kd l= .ok l'->
  ba l'/\ck false (-1) 24 kd l'=true/\aI l'=aI l+cv (n+v) l*(au u-1)/\aO l'<=aO l+am u/\l'.length=l.length/\l'.all (bX kd 24)=l.all (bX kd 24):=by
 intro l
 induction l with
 |nil=>intro l' _ _ _ _ _ _ h;rw [as9] at h;injection h with h;subst h;rw [ba,ck,cv,aI,aO];simp
 |cons b l B=>
  intro l' h hv hd hb ho ha hl
  rw [as9] at hl
  obtain ⟨W,j,hl⟩:=i8 hl
  obtain ⟨m,E,hl⟩:=i8 hl
  injection hl with hl;subst hl
  obtain ⟨f,q⟩:=b
  rw [AJ] at j
  obtain ⟨z,F,j⟩:=i8 j
  injection j with j;subst j
  rw [ba,fc] at ho
  rw [ck,jT,anZ] at ha
  rw [aO,eB] at hb
  obtain ⟨I,q2,J,Y,q5,L⟩:=B (fun b hb=>h b (by simp [hb])) hv hd (by omega) ho.2 ha.2 E
  obtain ⟨M,O,T,p4,A⟩:=ahB (n:=n) (u:=u) (kd:=kd) (l:=q) (h ⟨f,q⟩ (by simp)) hv hd (by omega) ho.1.2 ha.1 F
  rw [ba,fc,ck,jT,cv,Dv,aI,aI,fG,fG,aO,aO,eB,eB,aq5,aq5,List.all_cons,List.all_cons,L]
  refine ⟨⟨⟨⟨ho.1.1.1,ho.1.1.2.1,by rw [A];exact ho.1.1.2.2⟩,M⟩,I⟩,by rw [anZ];exact ⟨O,q2⟩, ?_,by omega,by omega, ?_⟩
  ·rw [T,J,Nat.add_mul];omega
  ·have:bX kd 24 ⟨f,z⟩=bX kd 24 ⟨f,q⟩:=by unfold bX;simp only [A]
   rw [this]
theorem F8 (hu:Fm u) (hn:0<=n) (t:Tm):wF n u t:=by
 induction t using gq with
 |h kd m nm r J sys x z=>
  intro v d o hv hd hb j ha h
  rw [akT] at h
  have A:=j
  rw [OkT] at j
  rw [am] at hb
  have L:=ha
  rw [aqp] at ha
  simp only [Bool.false_and,aqD,Bool.true_and,anZ] at ha
  obtain ⟨q2,M,O⟩:=ha
  split at h
  ·rename_i hc
   have fo:=mD (by omega) hu h
   have u1:=(Fm.f2 hu).up (by omega) h
   have q:J=[]/\sys=[]:=by
    unfold cL at q2
    simp only [anZ,decide_eq_true_eq] at q2
    obtain ⟨⟨a1,_,_,a4⟩,_⟩:=q2
    rw [hc.1] at a1 a4
    have:ct 1=0:=rfl
    exact ⟨List.length_eq_zero_iff.1 (by omega),List.length_eq_zero_iff.1 (a4 rfl)⟩
   obtain ⟨m1,h1,h2⟩:=i8 h
   have B:=uP (by omega) (by omega) u 0 0 m1 h1
   have E:=uP (by omega) (by omega) m1 0 0 o h2
   have T:au o=au u:=by rw [E.2.1,B.2.1]
   have F:am o=am u:=by rw [E.1,B.1]
   refine ⟨fo.ok,(eU fo.2).2.2, ?_,by omega⟩
   rw [T,q.1,q.2,ac4,if_pos hc,cE,cv,au,ay,aI]
   have:=mB u
   omega
  ·rename_i hc
   obtain ⟨W,F,h⟩:=i8 h
   obtain ⟨I,Y,h⟩:=i8 h
   injection h with h;subst h
   obtain ⟨k1,k2,k3,k4,k5⟩:=ahA x hv hd (by omega) j.2.1 M F
   obtain ⟨s1,s2,s3,s4,s5,s6⟩:=ahC z hv hd (by omega) j.2.2 O Y
   obtain ⟨o1,o2,o3,o4,o5,o6,o7⟩:=j.1
   have hm:0<=m->0<=(if kd=1/\m>n+v then m-1 else m):=by intro h;split<;>omega
   refine ⟨?_, ?_, ?_, ?_⟩
   ·rw [OkT]
    exact ⟨⟨o1,by unfold aG at*;split<;>omega,o3,o4,o5,by omega,by omega⟩,k1,s1⟩
   ·rw [aqp,k2,s2]
    simp only [Bool.false_and,aqD,Bool.true_and,Bool.and_true]
    unfold cL at q2 ⊢
    simp only [anZ,decide_eq_true_eq] at q2 ⊢
    rw [k5,s5,s6]
    obtain ⟨⟨a1,a2,a3,a4⟩,a5⟩:=q2
    refine ⟨⟨a1, ?_,a3,a4⟩, ?_⟩
    ·by_cases c:kd=1
     ·exact .inl c
     ·exact .inr (by rw [if_neg (fun h=>c h.1)];exact a2.resolve_left c)
    ·by_cases c1:kd=1
     ·rw [if_pos c1] at a5 ⊢
      simp only [anZ,decide_eq_true_eq] at a5 ⊢
      exact ⟨a5.1,hm a5.2.1,.inl (by decide)⟩
     ·rw [if_neg c1] at a5 ⊢;exact a5
   ·rw [ac4,if_neg hc,au,au,k3,s3,asW,Nat.add_mul];omega
   ·rw [am,am];omega
end
theorem ayn {n:Int} (hn:0<=n) {t u o:Tm} (j:Fm t) (hu:Fm u) (h:ams n t u= .ok o):Fm o:=by
 unfold ams at h
 split at h
 ·cases h
 rename_i A
 obtain ⟨B,h1,h⟩:=i8 h
 split at h
 ·cases h
 rename_i h2
 injection h with h;subst h
 obtain ⟨d1,d2,d3⟩:=eU j.2
 obtain ⟨q,x,z,E⟩:=F8 hu hn t (Int.le_refl 0) (Int.le_refl 0) (by omega) j.ok d3 h1
 rw [Int.add_zero] at z
 exact ⟨q,pS (by omega) (by omega) x⟩
theorem F7 {n:Int} {u:Tm} (t:Tm): ∀ {v d e:Int},akT n u v d t= .error e->0<e/\e<=1000:=by
 induction t using gq with
 |h kd m F r I sys q z=>
  intro v d e h
  have hk: ∀ {l:LT} {i:Nat},(∀x∈l,∀ {v d e:Int},akT n u v d x= .error e->0<e/\e<=1000)->dX n u v d kd i l= .error e->0<e/\e<=1000:=by
   intro l
   induction l with
   |nil=>intro i _ h;rw [dX] at h;cases h
   |cons t l j=>
    intro i h hl
    rw [dX] at hl
    rcases be hl with hl|⟨_,_,hl⟩
    ·exact h t (by simp) hl
    rcases be hl with hl|⟨_,_,hl⟩
    ·exact j (fun x A=>h x (by simp [A])) hl
    ·cases hl
  have E: ∀ {l:LT},(∀x∈l,∀ {v d e:Int},akT n u v d x= .error e->0<e/\e<=1000)->amj n u v d kd l= .error e->0<e/\e<=1000:=by
   intro l
   induction l with
   |nil=>intro _ h;rw [amj] at h;cases h
   |cons t l j=>
    intro h hl
    rw [amj] at hl
    rcases be hl with hl|⟨_,_,hl⟩
    ·exact h t (by simp) hl
    rcases be hl with hl|⟨_,_,hl⟩
    ·exact j (fun x A=>h x (by simp [A])) hl
    ·cases hl
  have hs: ∀ {l:LB},(∀b∈l,∀x∈b.kids,∀ {v d e:Int},akT n u v d x= .error e->0<e/\e<=1000)->as9 n u v d kd l= .error e->0<e/\e<=1000:=by
   intro l
   induction l with
   |nil=>intro _ h;rw [as9] at h;cases h
   |cons b l j=>
    intro h hl
    rw [as9] at hl
    obtain ⟨f,B⟩:=b
    rcases be hl with hl|⟨_,_,hl⟩
    ·rw [AJ] at hl
     rcases be hl with hl|⟨_,_,hl⟩
     ·exact E (h ⟨f,B⟩ (by simp)) hl
     ·cases hl
    ·rcases be hl with hl|⟨_,_,hl⟩
     ·exact j (fun b hb=>h b (by simp [hb])) hl
     ·cases hl
  rw [akT] at h
  split at h
  ·exact al3 h
  ·rcases be h with h|⟨_,_,h⟩
   ·exact hk q h
   ·rcases be h with h|⟨_,_,h⟩
    ·exact hs z h
    ·cases h
theorem AL {n:Int} {t u:Tm} {e:Int} (h:ams n t u= .error e):0<e/\e<=1000:=by
 unfold ams at h
 split at h
 ·injection h with h;omega
 ·rcases be h with h|⟨_,_,h⟩
  ·exact F7 t h
  ·split at h
   ·injection h with h;omega
   ·cases h
def sh {α:Type} (t:Tm) (x:Except Int α):Except Int α:=if bw t=0 then x else .error (bw t)
theorem z7 {α:Type} {t:Tm} {x:Except Int α} {e:Int} (j: ∀e,x= .error e->0<e/\e<=1000) (h:sh t x= .error e):0<e/\e<=1000:=by
 unfold sh at h
 split at h
 ·exact j e h
 ·rename_i q
  injection h with h
  have:=Et t;omega
def wA (a b:Int) (t:Tm):Except Int Tm:=sh t (J6 a b t)
def pH (f b:Int) (t:Tm):Except Int Tm:=sh t (acr 0 b 0 f t)
def an8 (i:Int) (r:LC) (t:Tm):Except Int Tm:=sh t (ame i r t)
theorem dj {e:Int} (h:e≠0):(e==0)=false:=by simpa using h
theorem aiH (hk:F3 k) {t:Tm} (j:In k t) {vb db:Int} (q:0<=vb/\vb<=1000000) (x:0<=db/\db<9223372036854775808) (I:Tm×Int->OS S):lu k t vb db I=I (tE (wA vb db t)):=by
 unfold wA sh
 by_cases h:bw t=0
 ·rw [if_pos h];exact He hk ⟨j.1,h⟩ q x I
 ·rw [if_neg h]
  simp only [lu,ag hk.fu,ar,y7,BS,amv j.1 j.2.1 j.dep,dj h,aqD,ae];rfl
theorem aiM (hk:F3 k) {t:Tm} (j:In k t) {f b:Int} (hf:0<=f/\f<=24) (hb:0<=b/\b<9223372036854775808) (I:Tm×Int->OS S):lv k t f b I=I (tE (pH f b t)):=by
 unfold pH sh
 by_cases h:bw t=0
 ·rw [if_pos h];exact Rr hk ⟨j.1,h⟩ hf hb I
 ·rw [if_neg h]
  simp only [lv,ag hk.fu,ar,yZ,BQ,amv j.1 j.2.1 j.dep,dj h,aqD,ae];rfl
theorem ap8 (hk:F3 k) {t:Tm} (j:In k t) {i:Int} (q:0<=i/\i<24) {r:LC} (x:RF r) (I:Tm×Int->OS S):m_ k t i r I=I (tE (an8 i r t)):=by
 unfold an8 sh
 by_cases h:bw t=0
 ·rw [if_pos h];exact Ra hk ⟨j.1,h⟩ q x I
 ·rw [if_neg h]
  simp only [m_,ag hk.fu,ar,DM,amv j.1 j.2.1 j.dep,dj h,aqD,ae];rfl
end Go.Proofs.YtgmmefmmnakbpaaGreatDoor
namespace Go.Proofs.YtgmmefmmnakbpaaGreatDoor
open Go PI
set_option maxRecDepth 20000
theorem agi (t:Tm): ∀ {v v' d d':Int},v+am t<=1000000000->v'+am t<=1000000000->acr 0 0 v d t=acr 0 0 v' d' t:=by
 induction t using gq with
 |h kd n J r L sys A B=>
  intro v v' d d' h h'
  rw [am] at h h'
  have hk: ∀ {l:LT} {i:Nat},(∀x∈l,∀ {v v' d d':Int},v+am x<=1000000000->v'+am x<=1000000000->acr 0 0 v d x=acr 0 0 v' d' x)->v+aH l+1<=1000000000->v'+aH l+1<=1000000000->dm 0 0 v d kd i l=dm 0 0 v' d' kd i l:=by
   intro l
   induction l with
   |nil=>intro i _ _ _;rw [dm,dm]
   |cons t l j=>
    intro i h h1 h2
    rw [aH] at h1 h2
    have:=g7 kd i
    rw [dm,dm,h t (by simp) (v:=v+arJ kd i) (v':=v'+arJ kd i) (d:=d+bJ kd i) (d':=d'+bJ kd i) (by omega) (by omega),j (fun x E=>h x (by simp [E])) (by omega) (by omega)]
  have F: ∀ {l:LT},(∀x∈l,∀ {v v' d d':Int},v+am x<=1000000000->v'+am x<=1000000000->acr 0 0 v d x=acr 0 0 v' d' x)->v+aH l+1<=1000000000->v'+aH l+1<=1000000000->alP 0 0 v d kd l=alP 0 0 v' d' kd l:=by
   intro l
   induction l with
   |nil=>intro _ _ _;rw [alP,alP]
   |cons t l j=>
    intro h h1 h2
    rw [aH] at h1 h2
    rw [alP,alP,h t (by simp) (v:=v) (v':=v') (d:=d+av kd) (d':=d'+av kd) (by omega) (by omega),j (fun x E=>h x (by simp [E])) (by omega) (by omega)]
  have z: ∀ {d:Int} {f:LC},alN d 0 f= .ok f:=fun {d f}=>if_pos (.inl rfl)
  have hs: ∀ {l:LB},(∀b∈l,∀x∈b.kids,∀ {v v' d d':Int},v+am x<=1000000000->v'+am x<=1000000000->acr 0 0 v d x=acr 0 0 v' d' x)->v+aO l+1<=1000000000->v'+aO l+1<=1000000000->alT 0 0 v d kd l=alT 0 0 v' d' kd l:=by
   intro l
   induction l with
   |nil=>intro _ _ _;rw [alT,alT]
   |cons b l j=>
    intro h h1 h2
    obtain ⟨f,q⟩:=b
    rw [aO,eB] at h1 h2
    rw [alT,alT,n8,n8,z,z,aD,aD,F (l:=q) (h ⟨f,q⟩ (by simp)) (by omega) (by omega),j (fun b hb=>h b (by simp [hb])) (by omega) (by omega)]
  rw [acr,acr,z,z,aD,aD,hk A (by omega) (by omega),hs B (by omega) (by omega)]
  have I:(kd=1/\n>=v/\n>1000000000-0)↔(kd=1/\n>=v'/\n>1000000000-0):=by omega
  simp only [I,Int.add_zero,ite_self]
variable {S:Type} {k:Nat}
def c6 (l:LT) (x:Except Int Tm):Except Int Tm:=if alE l=0 then al_ x else .error (alE l)
theorem soM {l:LT} {p:Tm×Int} {x:Except Int Tm} (j:alE l=0->tmE p=x) (hc:alE l≠0->p.2=alE l):al_ (tmE p)=c6 l x:=by
 unfold c6
 by_cases h:alE l=0
 ·grind
 ·rw [if_neg h]
  unfold tmE
  rw [hc h,if_neg h];rfl
theorem aFS {c:Int} {t a f y:Tm} (h:(auJ c t a f y).2=0):c=0:=by
 grind [aA3]
theorem aI1 {p:Tm×Int} (h:p.2=0):tmE p= .ok p.1:=if_pos h
theorem aHT (hk:F3 k) {t a f y:Tm} (A:In k t) (ha:In k a) (hf:In k f) (E:In k y) (I:Tm×Int->OS S):axq k t a f y I=I (tE (c6 [t,a,f,y] (atO t a f y))):=by
 have z: ∀x∈[t,a,f,y],In k x:=fun x B=>by
  grind
 have j:alE [t,a,f,y]=0-> ∀x∈[t,a,f,y],Fm x:=fun h=>avl (fun x B=>(z x B).1) h
 simp only [axq,ag hk.fu,ar,Re hk z (by simp),vU t A.1 _ A.2.1,aIa hk (fun h=>j h a (by simp)) (fun h=>j h f (by simp)) (fun h=>j h y (by simp))]
 refine (Rk hk (t:=(auJ (alE [t,a,f,y]) t a f y).1) (fun h=> ?_) I).trans ?_
 ·have q:=aFS h
  have:=aI1 h
  rw [q,aA4] at this
  rw [q]
  exact (aA5 (by omega) (by omega) (j q t (by simp)).f2 (j q a (by simp)).f2 (j q f (by simp)).f2 (j q y (by simp)).f2 this).isIn hk (by omega) (by omega)
 grind [soM,aA4,aA3]
structure Gd (x:Except Int Tm):Prop where
 en: ∀e,x= .error e->0<e/\e<=1000
 kd: ∀t,x= .ok t->0<=t.kind
theorem akc (hk:F3 k) {l:LT} {x:Except Int Tm} (j:alE l=0-> ∀t,x= .ok t->In k t):In k (tE (c6 l x)).1:=by
 unfold c6
 by_cases h:alE l=0
 ·rw [if_pos h]
  unfold al_
  cases q:x with
  |error e=>exact gQ hk
  |ok t=>
   rw [aD]
   split
   ·exact j h t q
   ·exact gQ hk
 ·rw [if_neg h];exact gQ hk
def azL (r:LC):Tm:= .mk 13 0 alH r [dS 10 [vN 0],vN 1,dS 9 [vN 0]] []
def idL:LT:=[dS 5 [vN 0],dS 5 [dS 8 [dS 8 [vN 0,dS 12 [vN 0]],dS 5 [dS 12 [dS 8 [azL [⟨1,0⟩],dS 12 [azL [⟨3,0⟩]]]]]]]]
theorem aF9 (q:Nat) (I:Int×Int×BA×LT->OS S):axr (q+100) I=I (8,0,alH,idL):=by kernel_rfl
theorem aFR:bw (dS 8 idL)=0:=by kernel_rfl
section
variable {hd:Tm->(Tm->OS S)->OS S} {t:Tm}
end
def J4 (sys:LB):Tm:= .mk 15 0 alH [] [.mk 3 0 alH [] [] [],.mk 3 0 alH [] [] []] sys
theorem RY (hk:Fu k) (sys:LB) (I:Int×Int×BA×LT×LB->OS S):avu k sys I=I (15,0,alH,[.mk 3 0 alH [] [] [],.mk 3 0 alH [] [] []],sys):=by
 simp_all [avu,arj,ag]
def AK (b:Br Tm):Tm:=b.kids.headD noT
structure SyF (sys:LB):Prop where
 kid: ∀b∈sys,b.kids=[AK b]/\Fm (AK b)/\aq b.face/\b.face.length<1073741824
 len:sys.length<=20000
 siz:aI sys<=20000
theorem iQ {sys:LB} (h:Fm (J4 sys)):SyF sys:=by
 obtain ⟨h1,h2,B⟩:=eU h.2
 have J:au (J4 sys)=3+aI sys:=by rfl
 have hd:aO sys+1<=am (J4 sys):=by grind [J4,am]
 unfold J4 at B
 rw [aqp] at B
 simp only [anZ] at B
 obtain ⟨_,ho,_,E⟩:=B
 have ho:(sys.all (bX 15 24)&&decide (([]:LC).length=0))=true:=by
  grind [cL]
 simp only [anZ] at ho
 have hb:=ars.1 ho.1
 rw [wH,ars] at E
 have hk: ∀b∈sys,b.kids=[AK b]/\Fm (AK b)/\aq b.face/\b.face.length<1073741824:=by
  intro b q
  have A:=hb b q
  unfold bX at A
  simp only [anZ,decide_eq_true_eq] at A
  have hl:b.kids.length=1:=by grind [cz]
  have z:=h.1.br (by exact q:b∈sys)
  match F:b.kids,hl with
  |[x],_=>
   have I:AK b=x:=by grind [AK]
   have j:x∈b.kids:=by grind
   rw [I]
   refine ⟨rfl,⟨z.2 x j,pS ?_ ?_ ?_⟩,z.1.1,z.1.2.1⟩
   ·have:=D0 j;have:=JP q;omega
   ·have:=k_ j;have:=we q;omega
   ·have:=ars.1 (E b q) x j
    rw [<-this]
    exact at8 x (by omega) (by decide)
 have hlen: ∀l:LB,(∀b∈l,b.kids=[AK b])->l.length<=aI l:=by
  intro l
  induction l<;>grind [aI,kZ,ay,mB]
 exact ⟨hk,by grind,by omega⟩
def g_ (line:Tm):LB->Except Int (LB)
 |[]=> .ok []
 |b::r=>bE (di [⟨1,0⟩,⟨2,0⟩] line) fun u=>bE (g_ line r) fun l=> .ok (.mk b.face [.mk 14 0 alH [⟨1,0⟩] [u,AK b] []]::l)
def dF (line a:Tm) (sys:LB):Except Int Tm:=bE (ame 0 [⟨0,0⟩] line) fun h=>bE (g_ line sys) fun l=> .ok (.mk 15 0 alH [] [h,dS 14 [line,a]] l)
theorem QA:RF [⟨1,0⟩,⟨2,0⟩]:=by
 refine ⟨by rfl,fun c hc=> ?_⟩
 simp only [arH,List.not_mem_nil,or_false] at hc
 rcases hc with rfl|rfl
 ·exact ⟨⟨by decide,by decide⟩,by decide,by decide⟩
 ·exact ⟨⟨by decide,by decide⟩,by decide,by decide⟩
theorem Qz:RF [⟨0,0⟩]:=gS ⟨⟨by decide,by decide⟩,by decide,by decide⟩
theorem agZ:aq [⟨1,0⟩]:=fun c hc=>by grind [ag1]
theorem akM {r:LC} {t y:Tm} (j:Fm t) (h:ame 0 r t= .ok y):OkT y/\am y<=200/\au y<=20000:=by
 obtain ⟨x,z,A,q⟩:=T0 h
 have B:=q j.ok j.rows
 have:=j.dep;have:=j.siz
 grind
theorem aaa {line:Tm}: ∀ {r:LB} {e:Int},g_ line r= .error e->0<e/\e<=1000:=by
 intro r
 induction r with
 |nil=>intro e h;cases h
 |cons b r j=>
  intro e h
  rcases be h with h|⟨_,_,h⟩<;>grind [be,li]
theorem o_ {line a:Tm} {sys:LB} {e:Int} (h:dF line a sys= .error e):0<e/\e<=1000:=by
 rcases be h with h|⟨_,_,h⟩
 ·exact awV h
 rcases be h with h|⟨_,_,h⟩
 ·exact aaa h
 simp_all
theorem aab {line:Tm} (hl:Fm line): ∀ {r l:LB},(∀b∈r,b.kids=[AK b]/\Fm (AK b)/\aq b.face/\b.face.length<1073741824)->g_ line r= .ok l->ba l/\aO l<=201/\aI l<=r.length*20001+aI r/\l.length=r.length:=by
 intro r
 induction r with
 |nil=>
  intro l _ h
  injection h with h;grind [ba,aO]
 |cons b r x=>
  intro l j h
  obtain ⟨u,h1,h⟩:=i8 h
  obtain ⟨B,h2,h⟩:=i8 h
  injection h with h;subst h
  obtain ⟨E,q,z,A⟩:=j b (by simp)
  obtain ⟨i1,i2,i3,i4⟩:=x (fun b hb=>j b (by simp [hb])) h2
  obtain ⟨a1,a2,a3,a4⟩:=Jo hl h1
  have:=q.dep
  refine ⟨?_, ?_, ?_,by simp [i4]⟩
  ·rw [ba,fc,aZ,aZ,OkT,aZ,aZ,aZ,ba]
   refine ⟨⟨⟨z,A,by simp⟩,⟨⟨by unfold aG;omega,by unfold aG;omega,by simp,agZ,by simp,by simp,by simp⟩,⟨a1,q.ok,trivial⟩,trivial⟩,trivial⟩,i1⟩
  all_goals grind [aO,eB,aH,am,aI,ay,au,kZ]
theorem yu (hk:F3 k) {line a:Tm} {sys:LB} (hl:Fm line) (ha:Fm a) (hs:SyF sys) {t:Tm} (h:dF line a sys= .ok t):In k t/\0<=t.kind:=by
 obtain ⟨q,h1,h⟩:=i8 h
 obtain ⟨l,h2,h⟩:=i8 h
 injection h with h;subst h
 obtain ⟨a1,a2,a3⟩:=akM hl h1
 obtain ⟨i1,i2,i3,i4⟩:=aab hl hs.kid h2
 have:=hs.len;have:=hs.siz;have:=hl.dep;have:=ha.dep;have:=hl.siz;have:=ha.siz
 have z:sys.length*20001<=20000*20001:=arA _ hs.len
 refine ⟨⟨?_,hk.fd ?_, ?_⟩,(by decide:(0:Int)<=15)⟩
 ·rw [OkT,aZ,aZ,aZ]
  exact ⟨⟨by unfold aG;omega,by unfold aG;omega,by simp,fun c hc=>(by cases hc),by simp,by simp,by omega⟩,⟨a1,ag2 (by omega) (by simp) fun x j=>by
   simp at j
   rcases j with rfl|rfl
   ·exact hl.ok
   ·exact ha.ok,trivial⟩,i1⟩
 ·grind [dS,am,aH,aO]
 ·unfold dS;rw [au,ay,ay,ay,au,ay,ay,ay,aI];omega
theorem ai_ (hk:F3 k) {c:Int} {t:Tm} (h:c=0->Fm t) (I:Tm×Int->OS S):yz k t c I=I (if c=0 then tE (ame 0 [⟨0,0⟩] t) else (noT,c)):=by
 simp only [yz,ag hk.fu,de,bG,au3,ar]
 by_cases hc:c=0
 ·grind [n3,Ra,Qz,rI]
 ·rw [decide_eq_false hc,aqD,ae,if_neg hc];rfl
theorem E6 (hk:F3 k) (I:Tm×Int->OS S) {line:Tm} {q:Int×Int×BA×LT} {w:Tm} {c:Int} (hc:c≠0) (z:w.sys.length<1073741824):
  ∀ (r p acc:LB) (m:Nat),w.sys=p++r->0<m->ko k I line q w m c acc (p.length:Int)=I (noT,c):=by
 intro r p acc m h A
 obtain ⟨m,rfl⟩: ∃j,m=j+1:=⟨m-1,by omega⟩
 cases r with
 |nil=>grind [ko,oP,n3,ar,ag,rG]
 |cons x r=>
  obtain ⟨B,E,F,J⟩:=apy h (by omega)
  grind [ko,oP,ae,de,ar,ag,rG]
theorem aeu (hk:F3 k) (I:Tm×Int->OS S) {line:Tm} (hl:Fm line) {q:Int×Int×BA×LT} {w:Tm} (L:w.sys.length<1073741824) (hs: ∀b∈w.sys,b.kids=[AK b]):
  ∀ (r p acc:LB) (m:Nat),w.sys=p++r->r.length<m->acc.length+r.length<1073741824->
   ko k I line q w m 0 acc (p.length:Int)=eE (g_ line r) (fun l=>eQ k (.mk q.1 q.2.1 q.2.2.1 [] q.2.2.2 (acc++l)) 0 fun z=>I (z.1,z.2.1)) fun e=>I (noT,e):=by
 intro r
 induction r with
 |nil=>
  intro p acc m h A ha
  obtain ⟨m,rfl,j⟩:=amr A
  simp only [ko,oP,akb h,n3,ag hk.fu,ar,g_,aP,arE]
 |cons x r M=>
  intro p acc m h A ha
  obtain ⟨m,rfl,j⟩:=amr A
  obtain ⟨O,T,F,J⟩:=apy h (by omega)
  have W:=hs x (by grind)
  have Y:af x.kids 0=some (AK x):=by rw [W];rfl
  have B: ∀g:Tm×Int->OS S,lr k line [⟨1,0⟩,⟨2,0⟩] 0 g=g (tE (di [⟨1,0⟩,⟨2,0⟩] line)):=fun g=>Rd hk hl QA g
  simp only [ko,oP,O,ae,T,sf,ag hk.fu,de,bG,show decide ((0:Int)=0)=true from rfl,aq6,n3,ar,B,Y,arj]
  rw [J5 (by grind),g_,AS]
  cases E:di [⟨1,0⟩,⟨2,0⟩] line with
  |error e=>
   have he:=li E
   rw [F]
   exact E6 hk I (show e≠0 by omega) L r (p++[x]) _ m J (by grind)
  |ok u=>
   rw [aP,AS,F]
   refine (M (p++[x]) (acc++[.mk x.face [.mk 14 0 alH [⟨1,0⟩] [u,AK x] []]]) m J j (by grind)).trans ?_
   grind [aP]
theorem aiI (hk:F3 k) {line a:Tm} {sys:LB} (hl:In k line) (ha:In k a) (hs:In k (J4 sys)) (I:Tm×Int->OS S):yx k line a sys I=I (tE (c6 [line,a,J4 sys] (dF line a sys))):=by
 have B: ∀x∈[line,a,J4 sys],In k x:=fun x F=>by
  grind
 have j:alE [line,a,J4 sys]=0-> ∀x∈[line,a,J4 sys],Fm x:=fun h=>avl (fun x F=>(B x F).1) h
 have q:sys.length<1073741824:=hs.1.node.2.2.2.2.2.2
 simp only [yx,Hq,ag hk.fu,ar,RY hk.fu]
 have hb: ∀g:Int->OS S,m9 k [line,a,.mk 15 0 alH [] [.mk 3 0 alH [] [] [],.mk 3 0 alH [] [] []] sys] g=g (alE [line,a,J4 sys]):=fun g=>Re hk B (by simp) g
 have hc: ∀g:Tm->OS S,dJ k (.mk 15 0 alH [] [.mk 3 0 alH [] [] [],.mk 3 0 alH [] [] []] sys) g=g (J4 sys):=fun g=>vU (J4 sys) hs.1 g hs.2.1
 simp only [hb,hc,vU line hl.1 _ hl.2.1,vU a ha.1 _ ha.2.1,ai_ hk (fun h=>j h line (by simp)),arj]
 unfold c6
 by_cases A:alE [line,a,J4 sys]=0
 ·have fl:=j A line (by simp)
  have fa:=j A a (by simp)
  have sy:=iQ (j A (J4 sys) (by simp))
  simp only [A,if_true]
  have E:I (tE (al_ (dF line a sys)))=eE (dF line a sys) (fun t=>eQ k t 0 fun z=>I (z.1,z.2.1)) fun e=>I (noT,e):=by
   unfold al_
   rw [amt _ I,AS]
   refine ad3 (fun t J=> ?_) fun _ _=>rfl
   rw [<-amt _ I]
   exact ((Rk hk (t:=t) (c:=0) (fun _=>(yu hk fl fa sy J).1) I).trans rfl).symm
  rw [E]
  unfold dF
  rw [AS]
  cases h1:ame 0 [⟨0,0⟩] line with
  |error e=>
   have he:=awV h1
   exact E6 hk I (w:=J4 sys) (show e≠0 by omega) q sys [] [] k rfl (by omega)
  |ok L=>
   rw [aP,AS]
   refine (aeu hk I fl (w:=J4 sys) q (fun b hb=>(sy.kid b hb).1) sys [] [] k rfl (by omega) (by grind)).trans ?_
   rfl
 ·simp only [if_neg A]
  exact E6 hk I (w:=J4 sys) A q sys [] [] k rfl (by omega)
def gK:LB->Except Int (LB)
 |[]=> .ok []
 |b::r=>bE (NF (agS b.face 0 1)) fun f=>bE (di [⟨3,0⟩] (AK b)) fun u=>bE (gK r) fun l=> .ok (.mk f [u]::l)
def amg (t a:Tm) (sys:LB):Except Int Tm:=bE (J6 0 1 t) fun h=>bE (J6 0 1 a) fun a'=>bE (gK sys) fun l=>bE (J6 0 2 a) fun a2=> .ok (.mk 15 0 alH [] [h,a'] (l++[.mk [⟨0,1⟩] [a2]]))
theorem acQ: ∀ {r:LB} {e:Int},gK r= .error e->0<e/\e<=1000:=by
 intro r
 induction r with
 |nil=>intro e h;cases h
 |cons b r j=>
  intro e h
  rcases be h with h|⟨_,_,h⟩<;>grind [be,T2,q_,li]
theorem uw {t a:Tm} {sys:LB} {e:Int} (h:amg t a sys= .error e):0<e/\e<=1000:=by
 rcases be h with h|⟨_,_,h⟩
 ·exact al3 h
 rcases be h with h|⟨_,_,h⟩
 ·exact al3 h
 rcases be h with h|⟨_,_,h⟩
 ·exact acQ h
 rcases be h with h|⟨_,_,h⟩
 ·exact al3 h
 simp_all
theorem acR: ∀ {r l:LB},(∀b∈r,b.kids=[AK b]/\Fm (AK b)/\aq b.face/\b.face.length<1073741824)->gK r= .ok l->ba l/\aO l<=201/\aI l<=r.length*20001/\l.length=r.length:=by
 intro r
 induction r with
 |nil=>
  intro l _ h
  injection h with h;grind [ba,aO,aI]
 |cons b r q=>
  intro l j h
  obtain ⟨f,x,h⟩:=i8 h
  obtain ⟨u,h1,h⟩:=i8 h
  obtain ⟨A,h2,h⟩:=i8 h
  injection h with h;subst h
  obtain ⟨B,z,E,F⟩:=j b (by simp)
  obtain ⟨i1,i2,i3,i4⟩:=q (fun b hb=>j b (by simp [hb])) h2
  obtain ⟨a1,a2,a3,a4⟩:=Jo z h1
  obtain ⟨g1,rfl⟩:=rR x
  have hf:=kQ g1
  have:=hf.len
  refine ⟨?_, ?_, ?_,by simp [i4]⟩
  ·rw [ba,fc,aZ,aZ]
   exact ⟨⟨⟨hf.2,by omega,by simp⟩,a1,trivial⟩,i1⟩
  all_goals grind [aO,eB,aH,aI,fG,ay]
theorem NQ {l l':LB} (h:ba l) (h':ba l'):ba (l++l'):=by
 grind [NR]
theorem zF (l l':LB):aO (l++l')=max (aO l) (aO l'):=by
 induction l<;>grind [aO]
theorem R1 (l l':LB):aI (l++l')=aI l+aI l':=by
 induction l<;>grind [aI]
theorem agY:aq [⟨0,1⟩]:=fun c hc=>by grind [ag0]
theorem ux (hk:F3 k) {t a:Tm} {sys:LB} (j:Fm t) (ha:Fm a) (hs:SyF sys) {x:Tm} (h:amg t a sys= .ok x):In k x/\0<=x.kind:=by
 obtain ⟨A,h1,h⟩:=i8 h
 obtain ⟨a',h2,h⟩:=i8 h
 obtain ⟨l,q,h⟩:=i8 h
 obtain ⟨a2,z,h⟩:=i8 h
 injection h with h;subst h
 have f1:=mD (by omega) j h1
 have f2:=mD (by omega) ha h2
 have f4:=mD (by omega) ha z
 obtain ⟨i1,i2,i3,i4⟩:=acR hs.kid q
 have:=hs.len;have:=f1.dep;have:=f2.dep;have:=f4.dep;have:=f1.siz;have:=f2.siz;have:=f4.siz
 have B:sys.length*20001<=20000*20001:=arA _ hs.len
 refine ⟨⟨?_,hk.fd ?_, ?_⟩,(by decide:(0:Int)<=15)⟩
 ·rw [OkT,aZ,aZ,aZ]
  refine ⟨⟨by unfold aG;omega,by unfold aG;omega,by simp,fun c hc=>(by cases hc),by simp,by simp,by grind⟩,⟨f1.ok,f2.ok,trivial⟩,NQ i1 ?_⟩
  rw [ba,ba,fc,aZ,aZ]
  exact ⟨⟨⟨agY,by simp,by simp⟩,f4.ok,trivial⟩,trivial⟩
 all_goals grind [am,aH,zF,aO,eB,au,ay,R1,aI,fG]
theorem uI (hk:F3 k) (I:Tm×Int->OS S) {a:Tm} {q:Int×Int×BA×LT} {sys:LB} {c:Int} (hc:c≠0) (z:sys.length<1073741824):
  ∀ (r p acc:LB) (m:Nat),sys=p++r->0<m->acc.length<1073741824->gM k I a q sys m c acc (p.length:Int)=I (noT,c):=by
 intro r p acc m h A ha
 obtain ⟨m,rfl⟩: ∃j,m=j+1:=⟨m-1,by omega⟩
 have B: ∀ (b:Br Tm) (f:Unit->OS S),asP (aw 1099511627776 acc.length [b].length) f=f ():=fun b f=>J5 (by grind) f
 cases r with
 |nil=>grind [gM,oQ,n3,ar,ag,Hh,rG]
 |cons x r=>
  obtain ⟨E,F,J,L⟩:=apy h (by omega)
  grind [gM,oQ,ae,de,ar,ag,Hh,rG]
theorem aeQ (hk:F3 k) (I:Tm×Int->OS S) {a:Tm} (ha:Fm a) {q:Int×Int×BA×LT} {sys:LB} (j:sys.length<1073741824) (hs: ∀b∈sys,b.kids=[AK b]/\Fm (AK b)/\aq b.face/\b.face.length<1073741824):
  ∀ (r p acc:LB) (m:Nat),sys=p++r->r.length<m->acc.length+r.length<1073741823->
   gM k I a q sys m 0 acc (p.length:Int)=eE (bE (gK r) fun l=>bE (J6 0 2 a) fun a2=> .ok (l++[.mk [⟨0,1⟩] [a2]])) (fun l=>eQ k (.mk q.1 q.2.1 q.2.2.1 [] q.2.2.2 (acc++l)) 0 fun z=>I (z.1,z.2.1)) fun e=>I (noT,e):=by
 intro r
 induction r with
 |nil=>
  intro p acc m h E A
  obtain ⟨m,rfl,B⟩:=amr E
  have F: ∀ (b:Br Tm) (f:Unit->OS S),asP (aw 1099511627776 acc.length [b].length) f=f ():=fun b f=>J5 (by grind) f
  have J: ∀g:Tm×Int->OS S,arP k a 0 2 0 g=g (tE (J6 0 2 a)):=fun g=>RW hk ha (by omega) (by omega) g
  simp only [gM,oQ,akb h,n3,ag hk.fu,ar,J,F,gK,aD]
  cases hu:J6 0 2 a with
  |error e=>
   have he:=al3 hu
   show eQ k _ e _=I (noT,e)
   grind [rG]
  |ok a2=>rfl
 |cons x r O=>
  intro p acc m h E A
  obtain ⟨m,rfl,B⟩:=amr E
  obtain ⟨T,W,L,M⟩:=apy h (by omega)
  obtain ⟨x1,x2,x3,x4⟩:=hs x (by grind)
  have Y:af x.kids 0=some (AK x):=by rw [x1];rfl
  have F: ∀ (b:Br Tm) (f:Unit->OS S),asP (aw 1099511627776 acc.length [b].length) f=f ():=fun b f=>J5 (by grind) f
  have hrow: ∀g:LC×Int->OS S,tA k x.face 0 g=g (agS x.face 0 1):=fun g=>ajX hk x3 x4 g
  simp only [gM,oQ,T,ae,W,sf,ag hk.fu,de,bG,show decide ((0:Int)=0)=true from rfl,aq6,n3,ar,hrow,Y,F]
  rw [gK,AS,AS]
  by_cases h1:(agS x.face 0 1).2=0
  ·rw [jF h1,aP,h1,Rd hk x2 QD,AS]
   cases h2:di [⟨3,0⟩] (AK x) with
   |error e=>
    have he:=li h2
    rw [L]
    exact uI hk I (show e≠0 by omega) j r (p++[x]) _ m M (by grind) (by grind)
   |ok u=>
    rw [aP,L]
    refine (O (p++[x]) (acc++[.mk (agS x.face 0 1).1 [u]]) m M B (by grind)).trans ?_
    rw [AS,AS]
    refine ad3 (fun l _=> ?_) fun _ _=>rfl
    grind [AS,aP]
  ·rw [iO h1,ai2 h1 hk,L]
   exact uI hk I h1 j r (p++[x]) _ m M (by grind) (by grind)
theorem aiO (hk:F3 k) {t a:Tm} {sys:LB} (J:In k t) (ha:In k a) (hs:In k (J4 sys)) (I:Tm×Int->OS S):yy k t a sys I=I (tE (c6 [t,a,J4 sys] (amg t a sys))):=by
 have E: ∀x∈[t,a,J4 sys],In k x:=fun x L=>by
  grind
 have j:alE [t,a,J4 sys]=0-> ∀x∈[t,a,J4 sys],Fm x:=fun h=>avl (fun x L=>(E x L).1) h
 have q:sys.length<1073741824:=hs.1.node.2.2.2.2.2.2
 have hb: ∀g:Int->OS S,m9 k [t,a,.mk 15 0 alH [] [.mk 3 0 alH [] [] [],.mk 3 0 alH [] [] []] sys] g=g (alE [t,a,J4 sys]):=fun g=>Re hk E (by simp) g
 simp only [yy,Hr,ag hk.fu,ar,RY hk.fu,hb,arj,RV hk (fun h=>j h t (by simp)) (show (0:Int)<=0/\(0:Int)<=1000000 by omega) (show (0:Int)<=1/\(1:Int)<9223372036854775808 by omega),
  RV hk (fun h=>j (ak3 h) a (by simp)) (show (0:Int)<=0/\(0:Int)<=1000000 by omega) (show (0:Int)<=1/\(1:Int)<9223372036854775808 by omega)]
 unfold c6
 have B:sys.length<k:=by omega
 by_cases A:alE [t,a,J4 sys]=0
 ·have fl:=j A t (by simp)
  have fa:=j A a (by simp)
  have sy:=iQ (j A (J4 sys) (by simp))
  have hlen:=sy.len
  rw [A,if_pos rfl,T9]
  have F:I (tE (al_ (amg t a sys)))=eE (amg t a sys) (fun t=>eQ k t 0 fun z=>I (z.1,z.2.1)) fun e=>I (noT,e):=by
   unfold al_
   rw [amt _ I,AS]
   refine ad3 (fun t J=> ?_) fun _ _=>rfl
   rw [<-amt _ I]
   exact ((Rk hk (t:=t) (c:=0) (fun _=>(ux hk fl fa sy J).1) I).trans rfl).symm
  rw [F]
  unfold amg
  rw [AS]
  cases h1:J6 0 1 t with
  |error e=>
   have he:=al3 h1
   show gM k I a _ sys k (mE e 0 1 a).2 [] 0=I (noT,e)
   rw [wz (show e≠0 by omega)]
   exact uI hk I (show e≠0 by omega) q sys [] [] k rfl (by omega) (by simp)
  |ok M=>
   rw [aP,AS]
   show gM k I a (15,0,alH,[M,(mE 0 0 1 a).1]) sys k (mE 0 0 1 a).2 [] 0=_
   rw [T9]
   cases h2:J6 0 1 a with
   |error e=>
    have he:=al3 h2
    exact uI hk I (show e≠0 by omega) q sys [] [] k rfl (by omega) (by simp)
   |ok a'=>
    rw [aP]
    refine (aeQ hk I fa q sy.kid sys [] [] k rfl B (by grind)).trans ?_
    rw [AS,AS]
    refine ad3 (fun l _=> ?_) fun _ _=>rfl
    rw [AS,AS]
    rfl
 ·rw [if_neg A,wz A]
  show gM k I a _ sys k (mE (alE [t,a,J4 sys]) 0 1 a).2 [] 0=_
  rw [wz A]
  exact uI hk I A q sys [] [] k rfl (by omega) (by simp)
def mM (c:Int) (x:Except Int Tm):Tm×Int:=if c=0 then tE x else (noT,c)
theorem kR (x:Except Int Tm):mM 0 x=tE x:=rfl
theorem n9 {c:Int} (h:c≠0) (x:Except Int Tm):mM c x=(noT,c):=if_neg h
theorem rJ (t:Tm) (e c:Int) (I:Tm×Int->OS S):asH k t e c I=I (if c=0 then (if e=0 then (t,0) else (noT,e)) else (noT,c)):=by
 simp only [asH,ar]
 by_cases hc:c=0
 ·subst hc
  rw [show ((0:Int)==0)=true from rfl,ae,if_pos rfl]
  by_cases he:e=0
  ·subst he;rfl
  ·rw [dj he,aqD,ae,if_neg he];rfl
 ·rw [dj hc,n3,if_neg hc,aqD,ae];rfl
theorem Lw (x:Except Int Tm) (h: ∀e,x= .error e->e≠0) (c:Int):(if c=0 then (if (tE x).2=0 then ((tE x).1,(0:Int)) else (noT,(tE x).2)) else (noT,c))=mM c x:=by
 unfold mM
 split
 ·cases x with
  |ok t=>rfl
  |error e=>rw [if_neg (show (tE (.error e)).2≠0 from h e rfl)];rfl
 ·rfl
theorem Az {f:(Tm×Int->OS S)->OS S} {x:Except Int Tm} (c:Int) (hf:c=0-> ∀g,f g=g (tE x)) (h: ∀e,x= .error e->e≠0) (I:Tm×Int->OS S):
  (ab (!(c==0)) (I (noT,c)) (f fun r=>I (if c=0 then (if r.2=0 then (r.1,0) else (noT,r.2)) else (noT,c))))=I (mM c x):=by
 by_cases hc:c=0
 ·subst hc
  rw [show (!((0:Int)==0))=false from rfl,n3,hf rfl,<-Lw x h 0]
 ·rw [dj hc,aqD,ae,n9 hc]
theorem FP {x:Except Int Tm} (h: ∀e,x= .error e->0<e/\e<=1000): ∀e,x= .error e->e≠0:=fun e he=>by have:=h e he;omega
theorem ak4 {a b:Int} {t:Tm}: ∀e,wA a b t= .error e->0<e/\e<=1000:=fun e h=>z7 (fun e h=>al3 h) h
theorem aak {a b:Int} {t:Tm}: ∀e,pH a b t= .error e->0<e/\e<=1000:=fun e h=>z7 (fun e h=>amo t h) h
theorem aqn {i:Int} {r:LC} {t:Tm}: ∀e,an8 i r t= .error e->0<e/\e<=1000:=fun e h=>z7 (fun e h=>awV h) h
theorem wa (hk:F3 k) {t:Tm} {r:LC} {c:Int} (j:c=0->In k t) (q:RF r) (I:Tm×Int->OS S):JL k t r c I=I (mM c (an8 0 r t)):=by
 simp only [JL,ag hk.fu,dG,ar,rJ]
 exact Az c (fun h g=>ap8 hk (j h) (i:=0) (by decide) q g) (FP aqn) I
theorem vZ (hk:F3 k) {t:Tm} {c:Int} (h:c=0->In k t) (I:Tm×Int->OS S):JI k t c I=I (mM c (an8 0 [⟨0,0⟩] t)):=by
 simp only [JI,ag hk.fu,au3,ar,wa hk h Qz]
theorem v6 (hk:F3 k) {t:Tm} {b c:Int} (j:c=0->In k t) (hb:0<=b/\b<1000) (I:Tm×Int->OS S):JJ k t b c I=I (mM c (pH 1 b t)):=by
 simp only [JJ,ag hk.fu,dG,ar,rJ]
 exact Az c (fun h g=>aiM hk (j h) (f:=1) (b:=b) (by decide) (by omega) g) (FP aak) I
theorem ajn (hk:F3 k) {t:Tm} {a b c:Int} (j:c=0->In k t) (ha:0<=a/\a<1000) (hb:0<=b/\b<1000) (I:Tm×Int->OS S):zb k t a b c I=I (mM c (wA a b t)):=by
 simp only [zb,ag hk.fu,dG,ar,rJ]
 exact Az c (fun h g=>aiH hk (j h) (vb:=a) (db:=b) (by omega) (by omega) g) (FP ak4) I
theorem v_ (hk:F3 k) {f:LC} {b c:Int} (hf:aq f) (hl:f.length<1073741824) (hb:0<=b/\b<1000) (I:LC×Int->OS S):JK k f b c I=I (if c=0 then agS f 0 b else ([],c)):=by
 simp only [JK,ag hk.fu,dG,ar,rJ]
 by_cases hc:c=0
 ·subst hc
  rw [show (!((0:Int)==0))=false from rfl,n3,vX hk.fu hf hl (by unfold aG;omega) (by unfold aG;omega),if_pos rfl,if_pos rfl]
  split
  ·rename_i h;rw [show agS f 0 b=((agS f 0 b).1,(agS f 0 b).2) from rfl,h]
  ·rfl
 ·rw [dj hc,aqD,ae,if_neg hc]
def dM (c:Int) (t:Tm):Tm×Int:=if c=0 then (if bw t=0 then (t,0) else (noT,bw t)) else (noT,c)
def ar_ (x:Except Int Tm):Tm×Bool×Int:=match x with
 | .ok t=>if bw t=0 then (t,true,0) else (noT,false,bw t)
 | .error e=>(noT,false,e)
theorem Ry (hk:F3 k) {t:Tm} {c:Int} (h:In k t) (I:Tm×Bool×Int×Int->OS S):ly k t c I=I ((dM c t).1,(dM c t).2==0,(dM c t).2,(dM c t).2):=by
 simp only [ly,ag hk.fu,dG,ar,rJ,amv h.1 h.2.1 h.dep]
 have:OkT (dM c t).1/\Fd k (am (dM c t).1):=by
  unfold dM
  split
  ·split
   ·exact ⟨h.1,h.2.1⟩
   ·exact ⟨(gQ hk).1,(gQ hk).2.1⟩
  ·exact ⟨(gQ hk).1,(gQ hk).2.1⟩
 exact vU (dM c t).1 this.1 _ this.2
theorem aae {t:Tm} (g:Tm×Bool×Int->OS S):g ((dM 0 t).1,(dM 0 t).2==0,(dM 0 t).2)=g (ar_ (.ok t)):=by
 unfold dM ar_
 simp only [if_true]
 split
 ·rfl
 ·rename_i h;rw [dj h]
theorem JF {c:Int} (h:c≠0) {t:Tm} (g:Tm×Bool×Int->OS S):g ((dM c t).1,(dM c t).2==0,(dM c t).2)=g (ar_ (.error c)):=by
 unfold dM ar_
 rw [if_neg h,dj h]
end Go.Proofs.YtgmmefmmnakbpaaGreatDoor
namespace Go.Proofs.YtgmmefmmnakbpaaGreatDoor
open Go PI
set_option maxRecDepth 20000
abbrev En:=Nat->Prop
def hp (c:Cl) (j:Nat):Prop:=c.pos.toNat.testBit j=true
def hn (c:Cl) (j:Nat):Prop:=c.neg.toNat.testBit j=true
theorem apD (a b:Cl) (j:Nat):hp (d9 a b) j↔hp a j\/hp b j:=by
 simp_all [hp,d9,ep]
theorem apA (a b:Cl) (j:Nat):hn (d9 a b) j↔hn a j\/hn b j:=by
 simp_all [hn,d9,ep]
theorem aoM {c:Cl} (h:RC c) {j:Nat} (hj:hp c j):j<24:=oZ (by have:=h.1;omega) hj
theorem aoL {c:Cl} (h:RC c) {j:Nat} (hj:hn c j):j<24:=oZ (by have:=h.2;omega) hj
theorem ao3 {s:Int} {n:Nat} (hn:n<24) (j:Nat):(alW s (n:Int)).toNat.testBit j=(s.toNat.testBit j&&decide (j<24)&& !decide (j=n)):=by
 unfold alW
 rw [if_pos (by omega),asG,asG,mm,Nat.testBit_and,g8,Nat.testBit_two_pow]
 grind
def wB (P:En) (n:Nat) (A:Prop):En:=fun j=>(j≠n/\P j)\/(j=n/\A)
theorem apE (n:Nat) (h:n<24) (j:Nat): ¬hp (nl n) j:=by
 unfold hp nl;simp
theorem apB (n:Nat) (h:n<24) (j:Nat):hn (nl n) j↔j=n:=by
 grind [hn,nl,aln]
theorem apF (n:Nat) (h:n<24) (j:Nat):hp (pl n) j↔j=n:=by
 grind [hp,pl,aln]
theorem apC (n:Nat) (h:n<24) (j:Nat): ¬hn (pl n) j:=by
 unfold hn pl;simp
def iy (n x:Nat):Nat:=if n<x then x-1 else x
theorem ma {s:Int} {n:Nat} (j:n<24) (h:0<=s/\s<16777216) (y:Nat):(pI s (n:Int)).toNat.testBit y=true↔ ∃x,s.toNat.testBit x=true/\x≠n/\iy n x=y:=by
 have hs:s.toNat<16777216:=by omega
 have q:s.toNat&&&M24=s.toNat:=by
  apply Nat.eq_of_testBit_eq
  grind [g8,oZ]
 unfold pI
 rw [asG]
 unfold j7
 rw [if_pos (by omega),asG,q,Nat.testBit_or,Dl,Nat.testBit_mul_two_pow,Nat.testBit_div_two_pow,Bool.or_eq_true,anZ,anZ,decide_eq_true_eq,decide_eq_true_eq]
 unfold iy
 grind
theorem aoF {s:Int} {n b:Nat} (h:0<=s/\s<16777216) (j:(alS s n b).2=0) (y:Nat):(alS s n b).1.toNat.testBit y=true↔ ∃x,s.toNat.testBit x=true/\up1 n b x=y:=by
 have hs:s.toNat<16777216:=by omega
 unfold alS at j ⊢
 rw [if_neg (by omega)] at j ⊢
 simp only [asG] at j ⊢
 rw [Fg] at j ⊢
 split at j<;>grind [up1,oY,oG,mem_bitsN,oZ]
theorem apV {c:Cl} {n b:Nat} (h:(dw c n b).2=0):(alS c.pos n b).2=0/\(alS c.neg n b).2=0/\(dw c n b).1=⟨(alS c.pos n b).1,(alS c.neg n b).1⟩:=by
 grind [dw]
theorem apw {n b:Nat}: ∀ {l h:LC},(adU (dK n b) h l).2=0->(adU (dK n b) h l).1=h++l.map (fun c=>(dw c n b).1)/\ ∀c∈l,(dw c n b).2=0:=by
 intro l
 induction l<;>grind [adU,dK]
def RX (fa:Bool) (f:LC):Prop:=RF f/\(fa=true-> ∀c∈f,bS c=false)
def aoc (fa:Bool) (f:LC) (i:Int) (r:LC):LC×Int:=if fa then iG f i r else iH f i r
theorem ap2 {fa:Bool} {f r:LC} {i:Int} (hf:aq f) (j:aq r) (h:(aoc fa f i r).2=0):RX fa (aoc fa f i r).1:=by
 unfold aoc at h ⊢
 cases fa
 ·exact ⟨ahR j h,fun h=>by cases h⟩
 ·have:=ahO hf j h
  exact ⟨this.1,fun _=>this.2⟩
def an7 (f:LC) (n:Nat):Prop:= ∀c∈f,¬hp c n/\ ¬hn c n
def same (n:Nat) (P P':En):Prop:= ∀j,j≠n->(P j↔P' j)
theorem same.symm {n:Nat} {P P':En} (h:same n P P'):same n P' P:=fun j hj=>(h j hj).symm
def ins (P:En) (n:Nat):En:=fun x=>x≠n/\P (iy n x)
theorem aqs {f:LC} {n:Nat}:jJ f n=true↔ ¬an7 f n:=by
 grind [jJ,an7,hp,hn]
theorem has_dims {f:LC} {n:Nat}:bP (ie f) (n:Int)=true↔n<24/\ ¬an7 f n:=by
 grind [bP,ie,asG,D7,aqs]
theorem nT {f:LC} (hf:RF f) {i:Int} (h:24<=i):ac2 i f=f:=by
 have: ∀c∈f,jU i c=c:=fun c hc=>by
  obtain ⟨p,q⟩:=c
  obtain ⟨h1,h2⟩:=hf.rc hc
  grind [jU,pI,j7,ZC]
 unfold ac2
 rw [show f.map (jU i)=f from (List.map_congr_left this).trans (List.map_id f),hf.1]
theorem apR {l:LC}:(bp l).1.length<=l.length:=by
 grind [bp,agM]
theorem apS {f:LC} {i b:Int}:(agS f i b).1.length<=f.length:=by
 unfold agS
 split
 ·split
  ·refine aru apR ?_
   have:=(KH (i:=i) (b:=b) (r:=f) (h:=[]) (fun c hc=>by cases hc)).2
   grind
  ·simp
 ·simp
abbrev Zp:=Bool->Int->LC->LC->Prop
abbrev Zo:=Int->LC->LC->Prop
mutual
def mY (pl:Bool):Tm->Prop
 | .mk kd n j r h sys=>RX (decide (kd=14)) r/\mX pl h/\si pl sys
def mX (pl:Bool):LT->Prop
 |[]=>True
 |t::l=>mY pl t/\mX pl l
def si (pl:Bool):LB->Prop
 |[]=>True
 |b::l=>Ji pl b/\si pl l
def Ji (pl:Bool):Br Tm->Prop
 | .mk f h=>(RX true f/\(pl=true->f≠[]))/\mX pl h
end
section
variable {pl:Bool} {c vb db kd:Int} {fo fa:dC} {Ro Ro':Zp} {Rb Rb':Zo}
end
theorem aoh {d:Int} (h:0<=d): ∃n:Nat,d=n:=⟨d.toNat,by omega⟩
theorem apv {r:LC} {fa:Bool} {d:Int} {f:LC} (h:foX 0 r fa d []= .ok f):f=[]:=by
 grind [acV]
variable {S:Type} {k:Nat}
def FQ (sys:LB):Bool:=sys.any fun b=>(b.face.length:Int)==0
mutual
def oq:Tm->Bool
 | .mk _ _ _ _ h sys=> !FQ sys&&(avk h&&AF sys)
def avk:LT->Bool
 |[]=>true
 |t::l=>oq t&&avk l
def AF:LB->Bool
 |[]=>true
 |b::l=>NZ b&&AF l
def NZ:Br Tm->Bool
 | .mk _ h=>avk h
end
theorem Q1 {f:LC} (hf:aq f) (h:cV f=true):RX true f:=by
 have:=(oB hf).1 h
 exact ⟨this.1,fun _=>this.2⟩
theorem FY {vars dims kd n nm r ks sys} (q:OkT (.mk kd n nm r ks sys)) (h:cL vars dims (.mk kd n nm r ks sys)=true):RX (decide (kd=14)) r/\ ∀b∈sys,RX true b.face:=by
 obtain ⟨A,B,E,z,F,I,J⟩:=q.node
 unfold cL at h
 simp only [anZ,decide_eq_true_eq] at h
 obtain ⟨⟨a1,a2,a3,a4⟩,a5⟩:=h
 have x:r.length=0->RX (decide (kd=14)) r:=fun h=>by
  have:=List.length_eq_zero_iff.1 h;subst this;exact ⟨rA,fun _ c hc=>by cases hc⟩
 have j:cz kd=0-> ∀b∈sys,RX true b.face:=fun h=>by
  grind
 split at a5
 ·rename_i c
  simp only [anZ,decide_eq_true_eq] at a5
  exact ⟨x a5.1,j (by subst c;decide)⟩
 split at a5
 ·rename_i c
  simp only [anZ,decide_eq_true_eq] at a5
  exact ⟨x a5.1,j (by subst c;decide)⟩
 split at a5
 ·rename_i c
  rw [anZ] at a5
  exact ⟨⟨(atQ z).1 a5.1,fun h=>by grind⟩,j (by rcases c with rfl|rfl|rfl<;>decide)⟩
 split at a5
 ·rename_i c
  rw [anZ] at a5
  subst c
  exact ⟨Q1 z a5.1,j (by decide)⟩
 ·simp only [anZ,decide_eq_true_eq] at a5
  refine ⟨x a5.2,fun b hb=> ?_⟩
  have:=ars.1 a5.1 b hb
  unfold bX at this
  simp only [anZ] at this
  exact Q1 (q.br hb).1.1 this.2.1
theorem Zz {bd pl:Bool} (t:Tm): ∀ {vars dims:Int},OkT t->aqp bd vars dims t=true->(pl=true->oq t=true)->mY pl t:=by
 induction t using gq with
 |h kd n M r O sys F I=>
  intro vars dims q h hp
  rw [aqp,anZ,anZ,anZ] at h
  obtain ⟨_,a,b,c⟩:=h
  obtain ⟨T,hb⟩:=FY q a
  have j:=q
  rw [OkT] at j
  obtain ⟨_,ok,os⟩:=j
  rw [oq] at hp
  simp only [anZ,Bool.not_eq_true'] at hp
  have hk: ∀ {l:LT} {i:Nat},(∀x∈l,∀ {vars dims:Int},OkT x->aqp bd vars dims x=true->(pl=true->oq x=true)->mY pl x)->aZ l->bO bd vars dims kd i l=true->(pl=true->avk l=true)->mX pl l:=by
   intro l
   induction l<;>grind [bO,mX,avk,aZ]
  have J: ∀ {l:LT},(∀x∈l,∀ {vars dims:Int},OkT x->aqp bd vars dims x=true->(pl=true->oq x=true)->mY pl x)->aZ l->ca bd vars dims kd l=true->(pl=true->avk l=true)->mX pl l:=by
   intro l
   induction l<;>grind [ca,mX,avk,aZ]
  have hs: ∀ {l:LB},(∀b∈l,∀x∈b.kids,∀ {vars dims:Int},OkT x->aqp bd vars dims x=true->(pl=true->oq x=true)->mY pl x)->ba l->(∀b∈l,RX true b.face)->ck bd vars dims kd l=true->(pl=true->FQ l=false/\AF l=true)->si pl l:=by
   intro l
   induction l with
   |nil=>grind [si]
   |cons b l L=>
    intro h1 h2 E B A
    obtain ⟨f,z⟩:=b
    rw [ba] at h2
    rw [fc] at h2
    rw [ck,jT,anZ] at B
    rw [FQ,List.any_cons,Bool.or_eq_false_iff,AF,NZ,anZ] at A
    rw [si,Ji]
    refine ⟨⟨⟨E ⟨f,z⟩ (by simp),fun e he=> ?_⟩,J (h1 ⟨f,z⟩ (by simp)) h2.1.2 B.1 fun e=>(A e).2.1⟩,L (fun b hb=>h1 b (by simp [hb])) h2.2 (fun b hb=>E b (by simp [hb])) B.2 fun e=>⟨(A e).1.2,(A e).2.2⟩⟩
    grind
  grind [mY]
theorem Fm.pl {t:Tm} {pl:Bool} (h:Fm t) (hp:pl=true->oq t=true):mY pl t:=by
 have:=h.2
 unfold bw at this
 split at this
 ·simp_all
 split at this
 ·simp_all
 split at this
 ·rename_i j;exact Zz t h.1 j hp
 omega
theorem Zx {kd d:Int}: ∀ {l:LT} {i:Nat} {x:Tm},24<=d->bO false (-1) d kd i l=true->x∈l->aqp false (-1) 24 x=true:=by
 intro l
 induction l with
 |nil=>intro i x _ _ h;cases h
 |cons t l j=>
  intro i x hd h hx
  rw [bO,anZ] at h
  rcases arH.1 hx with rfl|hx
  ·have:=h.1
   rw [B2,at8 x (by have:=gr kd i;omega) (Int.le_refl 24)] at this;exact this
  ·exact j hd h.2 hx
theorem Fm.kid {t x:Tm} (h:Fm t) (j:x∈t.kids):Fm x:=by
 obtain ⟨h1,h2,q⟩:=eU h.2
 have hd:=bY j
 have hs:au x<=au t:=by have:=Hl t;have:=k_ j;omega
 refine ⟨h.1.ki j,pS (by omega) (by omega) ?_⟩
 obtain ⟨kd,n,z,r,A,sys⟩:=t
 rw [aqp] at q
 simp only [Bool.false_and,aqD,Bool.true_and,anZ] at q
 exact Zx (Int.le_refl 24) q.2.1 j
theorem Fm.brk {t x:Tm} {b:Br Tm} (h:Fm t) (hb:b∈t.sys) (j:x∈b.kids):Fm x:=by
 obtain ⟨h1,h2,q⟩:=eU h.2
 have hd:=b8 hb j
 have hs:au x<=au t:=by have:=Hl t;have:=we hb;have:=k_ j;omega
 refine ⟨(h.1.bi hb).2 x j,pS (by omega) (by omega) ?_⟩
 obtain ⟨kd,n,z,r,A,sys⟩:=t
 rw [aqp] at q
 simp only [Bool.false_and,aqD,Bool.true_and,anZ] at q
 have:=q.2.2
 rw [wH,ars] at this
 have:=ars.1 (this b hb) x j
 rw [at8 x (by have:=atj kd;omega) (Int.le_refl 24)] at this;exact this
theorem Fm.own {t:Tm} (h:Fm t):cL (-1) 24 t=true:=by
 have j:=(eU h.2).2.2
 cases t
 rw [aqp] at j
 simp only [Bool.false_and,aqD,Bool.true_and,anZ] at j
 exact j.1
theorem Fm.nk {t:Tm} (h:Fm t):ct t.kind=t.kids.length:=by
 have:=h.own
 cases t
 unfold cL at this
 simp only [anZ,decide_eq_true_eq] at this
 exact this.1.1
theorem Fm.n0 {t:Tm} (h:Fm t) (hk:t.kind≠1):t.n=0:=by
 have:=h.own
 cases t
 unfold cL at this
 simp only [anZ,decide_eq_true_eq] at this
 exact this.1.2.1.resolve_left hk
theorem ZI {b:BA} (h:b.size=0):b=alH:=by
 obtain ⟨⟨l⟩⟩:=b
 cases l with
 |nil=>rfl
 |cons c l=>cases h
theorem Fm.nm0 {t:Tm} (h:Fm t) (hk:t.kind≠2):t.name=alH:=by
 have:=h.own
 cases t
 unfold cL at this
 simp only [anZ,decide_eq_true_eq] at this
 exact ZI (this.1.2.2.1.resolve_left hk)
theorem Fm.kd0 {t:Tm} (h:Fm t):0<=t.kind:=h.rows.no.2.2
theorem Fm.r14 {t:Tm} (h:Fm t) (hk:t.kind=14):RX true t.r:=by
 have:=FY (kd:=t.kind) (n:=t.n) (nm:=t.name) (r:=t.r) (ks:=t.kids) (sys:=t.sys) (by cases t;exact h.1) (by have:=h.own;cases t;exact this)
 have h1:=this.1
 rw [hk] at h1;exact h1
theorem Fm.face {t:Tm} {b:Br Tm} (h:Fm t) (hb:b∈t.sys):RX true b.face:=by
 have:=FY (kd:=t.kind) (n:=t.n) (nm:=t.name) (r:=t.r) (ks:=t.kids) (sys:=t.sys) (by cases t;exact h.1) (by have:=h.own;cases t;exact this)
 exact this.2 b hb
theorem ED {α:Type} {l:List α} {n:Nat} {i:Int} (j:i=n) {x:α} (h:l[n]? =some x):af l i=some x:=by subst j;rw [pU];exact h
theorem Dw (n:Int) (b:Br Tm) (l:LB):cv n (b::l)=dc n b.kids+cv n l:=by cases b;rfl
theorem tz (n:Int) (t:Tm):ac4 n t=(if t.kind=1/\t.n=n then 1 else 0)+(cE n t.kind 0 t.kids+cv n t.sys):=by cases t;rfl
theorem Z7 {kd:Int}: ∀ {l:LT} {i:Nat} {n:Int},(∀x∈l,∀n,ac4 n x<=au x)->cE n kd i l<=ay l:=by
 intro l
 induction l<;>grind [cE,ay]
theorem Z8: ∀ {l:LT} {n:Int},(∀x∈l,∀n,ac4 n x<=au x)->dc n l<=ay l:=by
 intro l
 induction l<;>grind [dc,ay]
theorem Z9: ∀ {l:LB} {n:Int},(∀b∈l,∀x∈b.kids,∀n,ac4 n x<=au x)->cv n l<=aI l:=by
 intro l
 induction l<;>grind [cv,aI,Dw,kZ,Z8]
theorem yr (t:Tm): ∀n,ac4 n t<=au t:=by
 induction t using c7<;>grind [tz,rM,Z7,Z9]
theorem Fm.no_sys {t:Tm} (h:Fm t) (hk:cz t.kind=0):t.sys=[]:=by
 have:=h.own
 cases t
 unfold cL at this
 simp only [anZ,decide_eq_true_eq] at this
 exact List.length_eq_zero_iff.1 (this.1.2.2.2 hk)
theorem Fm.leaf {t:Tm} (h:Fm t) (hk:t.kind=1):t.kids=[]/\t.sys=[]:=by
 have hn:=h.nk
 rw [hk] at hn
 refine ⟨List.length_eq_zero_iff.1 (by have:ct 1=0:=rfl;omega),h.no_sys (by rw [hk];rfl)⟩
section
variable {hd:Tm->Int->(Int->OS S)->OS S} {t:Tm} {n:Int}
theorem aet (hk:Fu k) (I:Int->OS S) (j:Int->Int->OS S) {v:Int} {x:Br Tm} (z: ∀y∈x.kids,∀g,hd y n g=g ((ac4 n y:Nat):Int)) (hl:x.kids.length<1073741824):
  ∀ (r p:LT) (m a:Nat),x.kids=p++r->r.length<m->a+dc n r<4611686018427387904->nG hd k I j n t v x m (a:Int) (p.length:Int)=j (su .i64 (v+1)) ((a+dc n r:Nat):Int):=by
 intro r
 induction r with
 |nil=>grind [amr,dc,nG,xh,n3]
 |cons y r A=>
  intro p m a h B ha
  obtain ⟨m,rfl,q⟩:=amr B
  obtain ⟨E,F,J,L⟩:=apy h (by omega)
  have M:=z y (by grind)
  have O:a+dc n (y::r)=(a+ac4 n y)+dc n r:=by rw [dc];omega
  rw [O] at ha ⊢
  have T:su .i64 ((a:Int)+((ac4 n y:Nat):Int))=((a+ac4 n y:Nat):Int):=by grind [aaf]
  simp only [nG,xh,E,ae,F,sf,ar,M,J,T,A (p++[y]) m (a+ac4 n y) L q ha]
theorem aes (hk:Fu k) (I:Int->OS S) (B: ∀b∈t.sys,∀y∈b.kids,∀g,hd y n g=g ((ac4 n y:Nat):Int)) (hl:t.sys.length<1073741824) (j: ∀b∈t.sys,b.kids.length<1073741824):
  ∀ (r p:LB) (m a:Nat),t.sys=p++r->r.length<m->a+cv n r<4611686018427387904->ku hd k I n t m (p.length:Int) (a:Int)=I ((a+cv n r:Nat):Int):=by
 intro r
 induction r with
 |nil=>grind [amr,cv,ku,sE,n3]
 |cons x r E=>
  intro p m a h F ha
  obtain ⟨m,rfl,q⟩:=amr F
  obtain ⟨J,L,M,O⟩:=apy h (by omega)
  have A:x∈t.sys:=by grind
  have z:=j x A
  have T:a+cv n (x::r)=(a+dc n x.kids)+cv n r:=by rw [Dw];omega
  rw [T] at ha ⊢
  have:=aet (t:=t) (n:=n) (v:=(p.length:Int)) hk I (ku hd k I n t m) (B x A) z x.kids [] k a rfl (by have:=hk;omega) (by omega)
  simp only [ku,sE,J,ae,L,sf]
  refine alQ this ?_
  rw [M,E (p++[x]) m (a+dc n x.kids) O q ha]
theorem aer (hk:Fu k) (I:Int->OS S) (hn:0<=n/\n<=2199023255552) (F: ∀y∈t.kids,∀q,0<=q/\q<=n+1-> ∀g,hd y q g=g ((ac4 q y:Nat):Int)) (x: ∀b∈t.sys,∀y∈b.kids,∀g,hd y n g=g ((ac4 n y:Nat):Int)) (E:OkT t):
  ∀ (r p:LT) (m a:Nat),t.kids=p++r->r.length<m->a+cE n t.kind p.length r+cv n t.sys<4611686018427387904->nF hd k I t n m (p.length:Int) (a:Int)=I ((a+cE n t.kind p.length r+cv n t.sys:Nat):Int):=by
 obtain ⟨o1,o2,o3,o4,o5,o6,J⟩:=E.no
 intro r
 induction r with
 |nil=>
  intro p m a h z ha
  obtain ⟨m,rfl,j⟩:=amr z
  have A:a+cE n t.kind p.length []=a:=by rfl
  rw [A] at ha ⊢
  have:=aes hk I x J (fun b hb=>(E.bi hb).1.2.2) t.sys [] k a rfl (by omega) ha
  grind [nF,sD,n3]
 |cons y r L=>
  intro p m a h z ha
  obtain ⟨m,rfl,j⟩:=amr z
  obtain ⟨M,O,T,W⟩:=apy h (by omega)
  have hb:=g7 t.kind p.length
  have B:su .i64 (n+arJ t.kind p.length)=n+arJ t.kind p.length:=by grind [aaf]
  have Y:=F y (by grind) (n+arJ t.kind p.length) (by omega)
  have A:a+cE n t.kind p.length (y::r)=(a+ac4 (n+arJ t.kind p.length) y)+cE n t.kind (p++[y]).length r:=by grind [cE]
  rw [A] at ha ⊢
  have hw:su .i64 ((a:Int)+((ac4 (n+arJ t.kind p.length) y:Nat):Int))=((a+ac4 (n+arJ t.kind p.length) y:Nat):Int):=by grind [aaf]
  simp only [nF,sD,M,ae,O,sf,ar,ag hk,jE,B,Y,T,hw,L (p++[y]) m (a+ac4 (n+arJ t.kind p.length) y) W j ha]
end
theorem ai6 (t:Tm): ∀ {k:Nat} {n:Int} (I:Int->OS S),Fm t->Fd k (am t)->0<=n/\n+am t<=2199023255552->gz k t n I=I ((ac4 n t:Nat):Int):=by
 induction t using c7 with
 |h t z A=>
  intro k n I ft hk hn
  obtain ⟨q,rfl,E,hf⟩:=hk.pos' (alF t)
  have hp:=alF t
  have J:=ft.siz
  have hc:=yr t n
  by_cases hv:t.kind=1/\t.n=n
  ·obtain ⟨L,M⟩:=ft.leaf hv.1
   grind [tz,cE,cv,gz,BU,ae]
  have F:Ak (gz q) q I t n q=I ((ac4 n t:Nat):Int):=by
   obtain ⟨j,rfl⟩: ∃j,q=j+1:=⟨q-1,by omega⟩
   rw [tz,if_neg hv,asW]
   rw [tz] at hc
   have:=aer (t:=t) (n:=n) E I (by omega) (fun y x O B g=>z y x g (ft.kid x) (hf _ (bY x)) ⟨B.1,by have:=bY x;omega⟩) (fun b hb y x g=>A b hb y x g (ft.brk hb x) (hf _ (b8 hb x)) ⟨hn.1,by have:=b8 hb x;omega⟩) ft.ok t.kids [] (j+1) 0 rfl (by have:=ft.ok.no.2.2.2.2.2.1;omega) (by grind)
   grind [Ak,xg]
  simp only [gz,BU,F]
  by_cases h1:t.kind=1<;>grind [ae,n3]
section
variable {hd:Tm->Int->(Int->OS S)->OS S} {t:Tm} {n:Int}
end
theorem N3 (n:Int) (u:Tm) (v d kd:Int) (b:Br Tm) (l:LB):as9 n u v d kd (b::l)=bE (bE (amj n u v d kd b.kids) fun h=> .ok (.mk b.face h)) fun j=>bE (as9 n u v d kd l) fun l'=> .ok (j::l'):=by cases b;rfl
theorem agP (t:Tm) (I:Int->OS S):ze k t I=I (av t.kind):=by
 simp only [ze,av]
 by_cases h:t.kind=15
 ·rw [h];rfl
 ·rw [beq_false_of_ne h,if_neg h];rfl
theorem Fm.r1 {t:Tm} (h:Fm t) (hk:t.kind=1):t.r=[]:=by
 have:=h.own
 obtain ⟨kd,n,j,r,q,sys⟩:=t
 have hk:kd=1:=hk
 subst hk
 unfold cL at this
 simp only [anZ,decide_eq_true_eq,if_true] at this
 exact List.length_eq_zero_iff.1 this.2.1
section
variable {hd:Tm->Int->Tm->Int->Int->(Pan Int Tm->OS S)->OS S} {t u:Tm} {n v d:Int}
theorem afl (hk:Fu k) (I:Pan Int Tm->OS S) (j:LB->Int->OS S) {ks:LT} {o:LB} {x:Br Tm} {i:Int} (z:0<=d/\d<4611686018427387904) (A: ∀y∈x.kids,∀g:Pan Int Tm->OS S,hd y n u v (d+av t.kind) g=g (pE (akT n u v (d+av t.kind) y))) (hl:x.kids.length<1073741824) (ho:o.length<1073741824):
  ∀ (r p acc:LT) (m:Nat),x.kids=p++r->r.length<m->acc.length+r.length<1073741824->
   avf hd k I j t ks o x u n v d i m acc (p.length:Int)=eE (amj n u v d t.kind r) (fun l=>j (o++[.mk x.face (acc++l)]) (su .i64 (i+1))) fun e=>I (.pan e):=by
 have B:=atj t.kind
 have q:su .i64 (d+av t.kind)=d+av t.kind:=by grind [aaf]
 intro r
 induction r with
 |nil=>
  grind [amr,avf,xj,n3,amj,aP,J5]
 |cons y r O=>
  intro p acc m h E ha
  obtain ⟨m,rfl,F⟩:=amr E
  obtain ⟨J,L,M,T⟩:=apy h (by omega)
  rw [aq5] at ha
  simp only [avf,xj,J,ae,L,sf,ar,ag hk,agP,q,A y (by grind),M,amj]
  grind [AS,ij,ad3,J5,aP]
theorem afk (hk:Fu k) (I:Pan Int Tm->OS S) {ks:LT} (q:OkT t) (j:0<=d/\d<4611686018427387904) (A: ∀b∈t.sys,∀y∈b.kids,∀g:Pan Int Tm->OS S,hd y n u v (d+av t.kind) g=g (pE (akT n u v (d+av t.kind) y))):
  ∀ (r p acc:LB) (m:Nat),t.sys=p++r->r.length<m->acc.length+r.length<1073741824->
   kw hd k I t ks u n v d m acc (p.length:Int)=eE (as9 n u v d t.kind r) (fun l=>I (.ok (.mk t.kind 0 t.name t.r ks (acc++l)))) fun e=>I (.pan e):=by
 intro r
 induction r with
 |nil=>
  grind [amr,kw,sG,n3,as9,aP]
 |cons x r M=>
  intro p acc m h B ha
  obtain ⟨m,rfl,E⟩:=amr B
  have F:=q.no.2.2.2.2.2.2
  obtain ⟨J,L,O,T⟩:=apy h (by omega)
  have z:x∈t.sys:=by grind
  obtain ⟨⟨f1,f2,f3⟩,_⟩:=q.bi z
  rw [aq5] at ha
  simp only [kw,sG,J,ae,L,sf]
  rw [J5 (by omega)]
  refine (afl (o:=acc) (i:=(p.length:Int)) hk I (kw hd k I t ks u n v d m) j (A x z) f3 (by omega) x.kids [] [] k rfl (by omega) (by grind)).trans ?_
  rw [N3,AS,AS]
  refine ad3 (fun l _=> ?_) fun e _=>rfl
  grind [aP,AS]
theorem afj (hk:Fu k) (I:Pan Int Tm->OS S) (A:OkT t) (B:0<=v/\v<4611686018427387904) (q:0<=d/\d<4611686018427387904) (E: ∀y∈t.kids,∀a b,0<=a/\a<=1->0<=b/\b<=1-> ∀g:Pan Int Tm->OS S,hd y n u (v+a) (d+b) g=g (pE (akT n u (v+a) (d+b) y)))
  (x: ∀b∈t.sys,∀y∈b.kids,∀g:Pan Int Tm->OS S,hd y n u v (d+av t.kind) g=g (pE (akT n u v (d+av t.kind) y))):
  ∀ (r p acc:LT) (m:Nat),t.kids=p++r->r.length<m->acc.length+r.length<1073741824->
   qj hd k I t u n v d m acc (p.length:Int)=eE (dX n u v d t.kind p.length r) (fun l=>eE (as9 n u v d t.kind t.sys) (fun l'=>I (.ok (.mk t.kind 0 t.name t.r (acc++l) l'))) fun e=>I (.pan e)) fun e=>I (.pan e):=by
 obtain ⟨Y,o2,o3,o4,o5,o6,o7⟩:=A.no
 intro r
 induction r with
 |nil=>
  intro p acc m h z ha
  obtain ⟨m,rfl,j⟩:=amr z
  simp only [qj,sF,akb h,n3,dX,aP,arE]
  exact afk hk I A q x t.sys [] [] k rfl (by omega) (by grind)
 |cons y r F=>
  intro p acc m h z ha
  obtain ⟨m,rfl,j⟩:=amr z
  obtain ⟨J,L,M,O⟩:=apy h (by omega)
  have bv:=g7 t.kind p.length
  have bd:=gr t.kind p.length
  have T:su .i64 (v+arJ t.kind p.length)=v+arJ t.kind p.length:=by grind [aaf]
  have wd:su .i64 (d+bJ t.kind p.length)=d+bJ t.kind p.length:=by grind [aaf]
  rw [aq5] at ha
  simp only [qj,sF,J,ae,L,sf,ar,ag hk,jE,T,wd,E y (by grind) _ _ bv bd,M,dX]
  rw [AS,ij]
  refine ad3 (fun W _=> ?_) fun e _=>rfl
  rw [J5 (by grind),F (p++[y]) (acc++[W]) m O j (by grind),AS,List.length_append,List.length_singleton]
  grind [aP]
end
theorem ajw {u:Tm} {n:Int} (fu:Fm u) (hn:0<=n/\n<=1099511627776) (t:Tm): ∀ {k:Nat} {v d:Int} (I:Pan Int Tm->OS S),Fm t->4294968296+am t<=k->0<=v/\v+am t<=1000->0<=d/\d+am t<=1000->gA k t n u v d I=I (pE (akT n u v d t)):=by
 induction t using c7 with
 |h t E F=>
  intro k v d I ft hk hv hd
  have hp:=alF t
  obtain ⟨q,rfl⟩: ∃q,k=q+1:=⟨k-1,by omega⟩
  have T:F3 q:=by omega
  have x:=T.fu
  have wn:su .i64 (n+v)=n+v:=by grind [aaf]
  have z:akT n u v d t=if t.kind=1/\t.n=n+v then J6 v d u else bE (dX n u v d t.kind 0 t.kids) fun J=>bE (as9 n u v d t.kind t.sys) fun A=> .ok (.mk t.kind (if t.kind=1/\t.n>n+v then t.n-1 else t.n) t.name t.r J A):=by
   obtain ⟨kd,m,nm,r,ks,sys⟩:=t;rfl
  simp only [gA,H2,wn,ag x,ar]
  by_cases h1:t.kind=1
  ·obtain ⟨W,Y⟩:=ft.leaf h1
   have L:(t.kind==1)=true:=by grind
   rw [L,ae,z]
   by_cases h2:t.n=n+v
   ·rw [h2,beq_self_eq_true,ae,if_pos ⟨h1,rfl⟩,He T fu (by omega) (by omega)]
    cases hh:J6 v d u with
    |error e=>
     have he:=al3 hh
     rw [show (tE (.error e)).2=e from rfl,dj (show e≠0 by omega)];rfl
    |ok y=>rfl
   ·rw [beq_false_of_ne h2,n3,if_neg (fun h=>h2 h.2),W,Y,dX,as9,aD,aD]
    have hr:t.r=[]:=ft.r1 h1
    have M:t.name=alH:=ft.nm0 (by omega)
    by_cases B:t.n>n+v
    ·have hi:=ft.ok.no.2.1
     have wt:su .i64 (t.n-1)=t.n-1:=by grind [aG,aaf]
     rw [decide_eq_true B,ae,if_pos ⟨h1,B⟩,wt,h1,hr,M];rfl
    ·rw [decide_eq_false B,n3,if_neg (fun h=>B h.2),<-W,<-Y]
     cases t;rfl
  ·rw [beq_false_of_ne h1,n3,z,if_neg (fun h=>h1 h.1),if_neg (fun h=>h1 h.1),ft.n0 h1]
   obtain ⟨o1,o2,o3,o4,o5,o6,o7⟩:=ft.ok.no
   rw [J5 (by omega)]
   have hQ: ∀y∈t.kids,∀a b,0<=a/\a<=1->0<=b/\b<=1-> ∀g:Pan Int Tm->OS S,gA q y n u (v+a) (d+b) g=g (pE (akT n u (v+a) (d+b) y)):=fun y j a b ha hb g=>by
    have:=bY j
    exact E y j g (ft.kid j) (by omega) (by omega) (by omega)
   have O: ∀b∈t.sys,∀y∈b.kids,∀g:Pan Int Tm->OS S,gA q y n u v (d+av t.kind) g=g (pE (akT n u v (d+av t.kind) y)):=fun b hb y j g=>by
    have:=b8 hb j
    have:=atj t.kind
    exact F b hb y j g (ft.brk hb j) (by omega) (by omega) (by omega)
   have:=afj (t:=t) (u:=u) (n:=n) (v:=v) (d:=d) x I ft.ok (by omega) (by omega) hQ O t.kids [] [] q rfl (by omega) (by grind)
   refine this.trans ?_
   refine alQ ?_ (Qx _ I).symm
   simp_all [AS,aP]
section
variable {hd:Tm->(Int->OS S)->OS S} {t:Tm}
theorem af6 (hk:Fu k) (I:Bool×Int->OS S) (j:Int->Int->Int->OS S) {v more:Int} {x:Br Tm} (z: ∀y∈x.kids,∀g,hd y g=g ((au y:Nat):Int)) (hl:x.kids.length<1073741824):
  ∀ (r p:LT) (m a:Nat),x.kids=p++r->r.length<m->a+ay r<4611686018427387904->n4 hd k I j t v x more m (a:Int) (p.length:Int)=j ((a+ay r:Nat):Int) (su .i64 (v+1)) more:=by
 intro r
 induction r with
 |nil=>grind [amr,ay,n4,yj,n3]
 |cons y r A=>
  intro p m a h B ha
  obtain ⟨m,rfl,q⟩:=amr B
  obtain ⟨E,F,J,L⟩:=apy h (by omega)
  have M:=z y (by grind)
  have O:a+ay (y::r)=(a+au y)+ay r:=by rw [ay];omega
  rw [O] at ha ⊢
  have T:su .i64 ((a:Int)+((au y:Nat):Int))=((a+au y:Nat):Int):=by grind [aaf]
  simp only [n4,yj,E,ae,F,sf,ar,ag hk,ug,M,J,T,aq6,n3,A (p++[y]) m (a+au y) L q ha]
theorem af5 (hk:Fu k) (I:Bool×Int->OS S) {more:Int} (B: ∀b∈t.sys,∀y∈b.kids,∀g,hd y g=g ((au y:Nat):Int)) (hl:t.sys.length<1073741824) (j: ∀b∈t.sys,b.kids.length<1073741824):
  ∀ (r p:LB) (m a:Nat),t.sys=p++r->r.length<m->a+aI r<4611686018427387904->kM hd k I t m (a:Int) (p.length:Int) more=I (true,((a+aI r:Nat):Int)):=by
 intro r
 induction r with
 |nil=>grind [amr,aI,kM,tr,n3]
 |cons x r E=>
  intro p m a h F ha
  obtain ⟨m,rfl,q⟩:=amr F
  obtain ⟨J,L,M,O⟩:=apy h (by omega)
  have A:x∈t.sys:=by grind
  have z:=j x A
  have T:a+aI (x::r)=(a+ay x.kids)+aI r:=by rw [aI,kZ];omega
  rw [T] at ha ⊢
  have:=af6 (t:=t) (v:=(p.length:Int)) (more:=more) hk I (kM hd k I t m) (B x A) z x.kids [] k a rfl (by have:=hk;omega) (by omega)
  simp only [kM,tr,J,ae,L,sf]
  refine alQ this ?_
  rw [M,E (p++[x]) m (a+ay x.kids) O q ha]
theorem af4 (hk:Fu k) (I:Bool×Int->OS S) (B: ∀y∈t.kids,∀g,hd y g=g ((au y:Nat):Int)) (q: ∀b∈t.sys,∀y∈b.kids,∀g,hd y g=g ((au y:Nat):Int)) (A:OkT t):
  ∀ (r p:LT) (m a:Nat),t.kids=p++r->r.length<m->a+ay r+aI t.sys<4611686018427387904->av6 hd k I t m (a:Int) (p.length:Int)=I (true,((a+ay r+aI t.sys:Nat):Int)):=by
 obtain ⟨Y,o2,o3,o4,o5,o6,E⟩:=A.no
 intro r
 induction r with
 |nil=>
  intro p m a h x ha
  obtain ⟨m,rfl,j⟩:=amr x
  have z:a+ay []=a:=by rfl
  rw [z] at ha ⊢
  have:=fun more=>af5 (more:=more) hk I q E (fun b hb=>(A.bi hb).1.2.2) t.sys [] k a rfl (by omega) ha
  simp only [av6,tq,akb h,n3]
  cases (t.kind==15)<;>grind [n3,ae]
 |cons y r F=>
  intro p m a h x ha
  obtain ⟨m,rfl,j⟩:=amr x
  obtain ⟨J,L,M,O⟩:=apy h (by omega)
  have T:=B y (by grind)
  have z:a+ay (y::r)=(a+au y)+ay r:=by rw [ay];omega
  rw [z] at ha ⊢
  have W:su .i64 ((a:Int)+((au y:Nat):Int))=((a+au y:Nat):Int):=by grind [aaf]
  simp only [av6,tq,J,ae,L,sf,ar,ag hk,jE,ug,T,M,W,aq6,n3,F (p++[y]) m (a+au y) O j ha]
theorem aeA (hk:Fu k) (I:Bool×Int->OS S) (j:Int->Int->Int->OS S) {v more:Int} {x:Br Tm} (z: ∀y∈x.kids,∀g,hd y g=g ((am y:Nat):Int)) (hl:x.kids.length<1073741824):
  ∀ (r p:LT) (m a:Nat),x.kids=p++r->r.length<m->n5 hd k I j t v x more m (a:Int) (p.length:Int)=j ((max a (aH r):Nat):Int) (su .i64 (v+1)) more:=by
 intro r
 induction r with
 |nil=>grind [amr,aH,n5,yk,n3]
 |cons y r A=>
  intro p m a h B
  obtain ⟨m,rfl,q⟩:=amr B
  obtain ⟨E,F,J,L⟩:=apy h (by omega)
  have M:=z y (by grind)
  have O:max a (aH (y::r))=max (max a (am y)) (aH r):=by rw [aH];omega
  rw [O]
  have T:(if ((am y:Nat):Int)>(a:Int) then ((am y:Nat):Int) else (a:Int))=((max a (am y):Nat):Int):=by omega
  simp only [n5,yk,E,ae,F,sf,ar,ag hk,uf,M,J,T,aq6,n3,A (p++[y]) m (max a (am y)) L q]
theorem aez (hk:Fu k) (I:Bool×Int->OS S) {more:Int} (B: ∀b∈t.sys,∀y∈b.kids,∀g,hd y g=g ((am y:Nat):Int)) (hl:t.sys.length<1073741824) (j: ∀b∈t.sys,b.kids.length<1073741824):
  ∀ (r p:LB) (m a:Nat),t.sys=p++r->r.length<m->kN hd k I t m (a:Int) (p.length:Int) more=I (true,((max a (aO r):Nat):Int)):=by
 intro r
 induction r with
 |nil=>grind [amr,aO,kN,tu,n3]
 |cons x r E=>
  intro p m a h F
  obtain ⟨m,rfl,q⟩:=amr F
  obtain ⟨J,L,M,O⟩:=apy h (by omega)
  have A:x∈t.sys:=by grind
  have z:=j x A
  have T:max a (aO (x::r))=max (max a (aH x.kids)) (aO r):=by rw [aO,pD];omega
  rw [T]
  have:=aeA (t:=t) (v:=(p.length:Int)) (more:=more) hk I (kN hd k I t m) (B x A) z x.kids [] k a rfl (by have:=hk;omega)
  simp only [kN,tu,J,ae,L,sf]
  refine alQ this ?_
  rw [M,E (p++[x]) m (max a (aH x.kids)) O q]
theorem aey (hk:Fu k) (I:Bool×Int->OS S) (B: ∀y∈t.kids,∀g,hd y g=g ((am y:Nat):Int)) (q: ∀b∈t.sys,∀y∈b.kids,∀g,hd y g=g ((am y:Nat):Int)) (A:OkT t):
  ∀ (r p:LT) (m a:Nat),t.kids=p++r->r.length<m->av7 hd k I t m (a:Int) (p.length:Int)=I (true,((max (max a (aH r)) (aO t.sys):Nat):Int)):=by
 obtain ⟨Y,o2,o3,o4,o5,o6,E⟩:=A.no
 intro r
 induction r with
 |nil=>
  intro p m a h x
  obtain ⟨m,rfl,j⟩:=amr x
  have z:max a (aH [])=a:=by rw [aH];omega
  rw [z]
  have:=fun more=>aez (more:=more) hk I q E (fun b hb=>(A.bi hb).1.2.2) t.sys [] k a rfl (by omega)
  simp only [av7,tt,akb h,n3]
  cases (t.kind==15)<;>grind [n3,ae]
 |cons y r F=>
  intro p m a h x
  obtain ⟨m,rfl,j⟩:=amr x
  obtain ⟨J,L,M,O⟩:=apy h (by omega)
  have T:=B y (by grind)
  have z:max a (aH (y::r))=max (max a (am y)) (aH r):=by rw [aH];omega
  rw [z]
  have W:(if ((am y:Nat):Int)>(a:Int) then ((am y:Nat):Int) else (a:Int))=((max a (am y):Nat):Int):=by omega
  simp only [av7,tt,J,ae,L,sf,ar,ag hk,jE,uf,T,M,W,aq6,n3,F (p++[y]) m (max a (am y)) O j]
end
theorem Q_ (t:Tm):OkT t-> ∀ {k:Nat} (I:Int->OS S),Fd k (am t)->au t<4611686018427387904->j6 k t I=I ((au t:Nat):Int):=by
 induction t using c7 with
 |h t z A=>
  intro x k I hk hs
  obtain ⟨q,rfl,B,hf⟩:=hk.pos' (alF t)
  have E:=rM t
  have:=af4 B (fun r=>I r.2) (fun y j g=>z y j (x.ki j) g (hf _ (bY j)) (by have:=k_ j;omega)) (fun b hb y j g=>A b hb y j ((x.bi hb).2 y j) g (hf _ (b8 hb j)) (by have:=k_ j;have:=we hb;omega)) x t.kids [] q 1 rfl (by have:=x.no.2.2.2.2.2.1;omega) (by omega)
  grind [j6,TS,ar,DY,IW,ag]
theorem aiK (t:Tm):OkT t-> ∀ {k:Nat} (I:Int->OS S),Fd k (am t)->am t<4611686018427387904->j5 k t I=I ((am t:Nat):Int):=by
 induction t using c7 with
 |h t z A=>
  intro x k I hk hs
  obtain ⟨q,rfl,B,hf⟩:=hk.pos' (alF t)
  have E:=pF t
  have:=aey B (fun r=>I (su .i64 (r.2+1))) (fun y j g=>z y j (x.ki j) g (hf _ (bY j)) (by have:=bY j;omega)) (fun b hb y j g=>A b hb y j ((x.bi hb).2 y j) g (hf _ (b8 hb j)) (by have:=b8 hb j;omega)) x t.kids [] q 0 rfl (by have:=x.no.2.2.2.2.2.1;omega)
  simp only [j5,TO,ag B,ar,DZ,IX]
  grind [aaf]
abbrev F4 (k:Nat):Prop:=4294970296<=k
theorem F4.f3 (h:F4 k):F3 k:=by have:4294970296<=k:=h;unfold F3;omega
def ri (n:Int) (t u:Tm):Except Int Tm:=sh t (sh u (ams n t u))
theorem ajv (h:F4 k) {t u:Tm} (q:In k t) (hu:In k u) {n:Int} (hn:0<=n/\n<=1000000) (I:Tm×Int->OS S):zd k t n u I=I (tE (ri n t u)):=by
 have hk:=h.f3
 simp only [zd,ag hk.fu,ar,amv q.1 q.2.1 q.dep,amv hu.1 hu.2.1 hu.dep]
 unfold ri
 by_cases h1:bw t=0
 case neg=>rw [dj h1,aqD,ae];unfold sh;rw [if_neg h1];rfl
 by_cases h2:bw u=0
 case neg=>rw [h1,show (!((0:Int)==0))=false from rfl,n3,dj h2,aqD,ae];unfold sh;rw [if_pos h1,if_neg h2];rfl
 have ft:Fm t:=⟨q.1,h1⟩
 have fu:Fm u:=⟨hu.1,h2⟩
 have hc:=yr t n
 have z1:=ft.siz;have z2:=fu.siz;have z3:=mB u;have d1:=ft.dep;have d2:=fu.dep
 have J:4294970296<=k:=h
 have x:(if 1099511627776<n then (1099511627776:Int) else n)=n:=if_neg (by omega)
 have hmul:ac4 n t*(au u-1)<=20000*20000:=Nat.mul_le_mul (by omega) (by omega)
 have z:su .i64 ((au u:Int)-1)=((au u-1:Nat):Int):=by rw [aaf (by omega) (by omega)];omega
 have A:su .i64 ((ac4 n t:Int)*((au u-1:Nat):Int))=((ac4 n t*(au u-1):Nat):Int):=by
  rw [<-Int.natCast_mul];exact aaf (by omega) (by omega)
 have B:su .i64 ((au t:Int)+((ac4 n t*(au u-1):Nat):Int))=((au t+ac4 n t*(au u-1):Nat):Int):=by
  rw [<-Int.natCast_add];exact aaf (by omega) (by omega)
 rw [h1,h2,show (!((0:Int)==0))=false from rfl,n3,n3,decide_eq_false (by omega),n3]
 simp only [x]
 rw [Q_ t ft.ok _ (ft.fd hk) (by omega),ai6 t _ ft (ft.fd hk) (by omega),Q_ u fu.ok _ (fu.fd hk) (by omega),z,A,B]
 unfold sh
 rw [if_pos h1,if_pos h2]
 unfold ams
 by_cases E:au t+ac4 n t*(au u-1)>20000
 ·rw [decide_eq_true (by omega),ae,if_pos E];rfl
 rw [decide_eq_false (by omega),n3,if_neg E,ajw fu (by omega) t _ ft (by omega) (by omega) (by omega),ij]
 cases hp:akT n u 0 0 t with
 |error e=>rfl
 |ok o=>
  rw [aP,aD]
  have j:=(eU ft.2).2.2
  obtain ⟨L,q2,M,O⟩:=F8 fu (by omega) t (v:=0) (d:=0) (by omega) (by omega) (by omega) ft.ok j hp
  show j5 k o _=_
  rw [aiK o L _ (hk.fd (by omega)) (by omega)]
  by_cases F:am o>200
  ·rw [decide_eq_true (by omega),ae,if_pos F];rfl
  ·rw [decide_eq_false (by omega),n3,if_neg F];rfl
abbrev aml (r:LC) (l a:Tm):Tm:= .mk 14 0 alH r [l,a] []
def amw (r:LC) (line:Tm):LB->Except Int (LB)
 |[]=> .ok []
 |b::l=>bE (NF (agS r 0 1)) fun phi=>bE (acr 0 1 0 1 line) fun h=>bE (amw r line l) fun j=> .ok (.mk b.face [aml phi h (AK b)]::j)
def gh (r:LC) (line x:Tm):Except Int Tm:=
 if x.kind=24\/x.kind=25 then .ok x
 else if x.kind=26 then .ok (.mk 26 0 alH x.r [aml r (line.kids.getD 0 noT) (x.kids.getD 0 noT)] [])
 else bE (ame 0 [⟨0,0⟩] line) fun e=>bE (amw r line x.sys) fun l=> .ok (.mk 15 0 alH [] [e,aml r line (x.kids.getD 1 noT)] l)
def h_ (t:Tm):Tm×Bool×Int:=
 if bw t≠0 then (noT,false,bw t) else
 if t.kind=14/\(t.kids.getD 0 noT).kind=23/\((t.kids.getD 1 noT).kind=24\/(t.kids.getD 1 noT).kind=25\/(t.kids.getD 1 noT).kind=26\/(t.kids.getD 1 noT).kind=15) then ar_ (gh t.r (t.kids.getD 0 noT) (t.kids.getD 1 noT)) else (noT,false,0)
theorem I8 {t:Tm} (h:t.kids.length=2): ∃a b,t.kids=[a,b]:=by
 match h':t.kids,h with
 |[a,b],_=>exact ⟨a,b,rfl⟩
theorem jH {t:Tm} (h:t.kids.length=1): ∃a,t.kids=[a]:=by
 match h':t.kids,h with
 |[a],_=>exact ⟨a,rfl⟩
theorem Fm.sy {t:Tm} (h:Fm t) (hk:t.kind=15):(∀b∈t.sys,b.kids=[AK b]/\Fm (AK b)/\RX true b.face)/\t.sys.length<=20000:=by
 have ho:=h.own
 refine ⟨fun b hb=> ?_, ?_⟩
 ·have hl:b.kids.length=1:=by
   obtain ⟨kd,n,q,r,j,sys⟩:=t
   have hk:kd=15:=hk
   subst hk
   have ho:(_&&(sys.all (bX 15 24)&&_))=true:=ho
   simp only [anZ] at ho
   have:=ars.1 ho.2.1 b hb
   unfold bX at this
   simp only [anZ,decide_eq_true_eq] at this
   have h1:=this.1
   have:cz 15=1:=rfl
   omega
  obtain ⟨f,j⟩:=b
  match j,hl with
  |[a],_=>exact ⟨rfl,h.brk hb (by simp [AK]),h.face hb⟩
 ·have h1:=h.siz
  have h2:=Hl t
  have: ∀ {l:LB},(∀b∈l,b.kids≠[])->l.length<=aI l:=by
   intro l
   induction l with
   |nil=>intro _;simp
   |cons b l x=>
    intro hl
    have:=x fun b hb=>hl b (by simp [hb])
    have hb:=hl b (by simp)
    obtain ⟨f,j⟩:=b
    cases j with
    |nil=>exact absurd rfl hb
    |cons a j=>rw [aI,fG,ay,aq5];have:=mB a;omega
  have:=this (l:=t.sys) fun b hb=>by
   intro he
   obtain ⟨kd,n,q,r,j,sys⟩:=t
   have hk:kd=15:=hk
   subst hk
   have ho:(_&&(sys.all (bX 15 24)&&_))=true:=ho
   simp only [anZ] at ho
   have:=ars.1 ho.2.1 b hb
   unfold bX at this
   simp only [anZ,decide_eq_true_eq] at this
   have h1:=this.1
   rw [he] at h1
   have:cz 15=1:=rfl
   simp at h1;omega
  omega
def stE {α:Type} (c:Int) (x:Except Int α):Except Int α:=if c=0 then x else .error c
theorem oH {α:Type} (x:Except Int α):stE 0 x=x:=rfl
theorem lb {α:Type} {c:Int} (h:c≠0) (x:Except Int α):stE c x= .error c:=if_neg h
structure Sm (n:Nat) (t:Tm):Prop where
 ok:OkT t
 siz:au t<=n
 dep:am t<=300
theorem Fm.sm {t:Tm} (h:Fm t):Sm 20000 t:=⟨h.ok,h.siz,by have:=h.dep;omega⟩
theorem Sm.mono {n m:Nat} {t:Tm} (h:Sm n t) (j:n<=m):Sm m t:=⟨h.ok,by have:=h.siz;omega,h.dep⟩
theorem aoi:Sm 20000 noT:=⟨agT,by unfold noT;rw [au,ay,aI];omega,by unfold noT;rw [am,aH,aO];omega⟩
theorem Sm.isIn {n:Nat} {t:Tm} (h:Sm n t) (hk:F3 k) (hn:n<1099511627776):In k t:=⟨h.ok,hk.fd (by have:=h.dep;omega),by have:=h.siz;omega⟩
structure Bs' (n:Nat) (l:LB):Prop where
 ok:ba l
 siz:aI l<=l.length*n
 dep:aO l<=301
theorem Dp (n:Nat):Bs' n []:=⟨by rw [ba];trivial,by rw [aI];simp,by rw [aO];omega⟩
theorem Ju {n:Nat} {l:LB} (h:Bs' n l) {f:LC} (hf:aq f/\f.length<1073741824) {t:Tm} (j:Sm n t):Bs' n (l++[⟨f,[t]⟩]):=by
 refine ⟨NQ h.ok ?_, ?_, ?_⟩
 ·rw [ba,fc,aZ,aZ,ba];exact ⟨⟨⟨hf.1,hf.2,by simp⟩,j.ok,trivial⟩,trivial⟩
 ·rw [R1,aI,fG,ay,ay,aI,List.length_append,List.length_singleton,Nat.succ_mul]
  have:=h.siz;have:=j.siz;omega
 ·rw [zF,aO,eB,aH,aH,aO]
  have:=h.dep;have:=j.dep;omega
theorem Hn {kd:Int} (B:0<=kd/\kd<=28) {r:LC} (A:aq r/\r.length<1073741824) {ks:LT} {sys:LB} {n m:Nat} (j: ∀x∈ks,OkT x/\am x<=299) (hl:ks.length<1000) (J:ay ks<=n) (hs:ba sys) (z:sys.length<1073741824) (E:aO sys<=299) (F:aI sys<=m):Sm (n+m+1) (.mk kd 0 alH r ks sys):=by
 have hd:aH ks<=299:=by
  have: ∀ {l:LT},(∀x∈l,am x<=299)->aH l<=299:=by
   intro l
   induction l with
   |nil=>intro _;rw [aH];omega
   |cons t l I=>intro h;rw [aH];have:=h t (by simp);have:=I fun x q=>h x (by simp [q]);omega
  exact this fun x q=>(j x q).2
 refine ⟨?_, ?_, ?_⟩
 ·rw [OkT]
  exact ⟨⟨by unfold aG;omega,by unfold aG;omega,by decide,A.1,A.2,by omega,z⟩,okK_iff.2 fun x q=>(j x q).1,hs⟩
 ·rw [au];omega
 ·rw [am];omega
theorem aol {r:LC} (j:aq r/\r.length<1073741824) {n m:Nat} {l a:Tm} (hl:Sm n l) (ha:Sm m a) (h1:am l<=299) (h2:am a<=299):Sm (n+m+1) (aml r l a):=by
 have:=Hn (kd:=14) (by omega) j (ks:=[l,a]) (sys:=[]) (n:=n+m) (m:=0) (fun x h=>by
  simp at h
  rcases h with rfl|rfl
  ·exact ⟨hl.ok,h1⟩
  ·exact ⟨ha.ok,h2⟩) (by simp) (by rw [ay,ay,ay];have:=hl.siz;have:=ha.siz;omega) (by rw [ba];trivial) (by simp) (by rw [aO];omega) (by rw [aI];omega)
 exact this
theorem EC {t:Tm} {a b:Tm} (h:t.kids=[a,b]):t.kids.getD 0 noT=a/\t.kids.getD 1 noT=b:=by rw [h];exact ⟨rfl,rfl⟩
theorem G9 {fa:Bool} {f:LC} (h:RX fa f):aq f/\f.length<1073741824:=⟨h.1.2,by have:=h.1.len;omega⟩
theorem aoE {f:LC} {b:Int} (h:RF f):aq (agS f 0 b).1/\(agS f 0 b).1.length<1073741824:=by
 have hl:=apS (f:=f) (i:=0) (b:=b)
 have:=h.len
 refine ⟨?_,by omega⟩
 by_cases j:(agS f 0 b).2=0
 ·exact (kQ j).2
 ·rw [apW j];exact fun c hc=>by cases hc
theorem apN (hk:F3 k) (I:Tm×Bool×Int->OS S) {t line x:Tm} {z:Int×Int×BA×LC×LT} {q:Tm×Int} (M:RX true t.r) (hl:Fm line) (hx: ∀b∈x.sys,b.kids=[AK b]/\Fm (AK b)/\RX true b.face) (ax:x.sys.length<=20000)
  (O: ∀acc,Bs' 50000 acc->acc.length<=20000->aO acc<=299->In k (.mk 15 0 alH [] [q.1,.mk z.1 z.2.1 z.2.2.1 z.2.2.2.1 z.2.2.2.2 []] acc)):
  ∀ (r p acc:LB) (m:Nat) (c:Int),x.sys=p++r->r.length<m->Bs' 50000 acc->aO acc<=299->acc.length+r.length<=20000->
   E7 k I t z line q x m c acc (p.length:Int)=I (ar_ (stE c (bE (amw t.r line r) fun l'=> .ok (.mk 15 0 alH [] [q.1,.mk z.1 z.2.1 z.2.2.1 z.2.2.2.1 z.2.2.2.2 []] (acc++l'))))):=by
 intro r
 induction r with
 |nil=>
  intro p acc m c h T hb hd j
  obtain ⟨m,rfl,F⟩:=amr T
  simp only [E7,Jp,akb h,n3,ag hk.fu,JM,ar]
  rw [Ry hk (O acc hb (by simpa using j) hd),amw,aD,arE]
  by_cases hc:c=0
  ·subst hc;exact aae I
  ·rw [lb hc];exact JF hc I
 |cons b r ih=>
  intro p acc m c h T hb hd j
  obtain ⟨m,rfl,F⟩:=amr T
  obtain ⟨e1,e2,e3,e4⟩:=apy h (by omega)
  obtain ⟨W,B,Y⟩:=hx b (by rw [h];simp)
  have hg:af b.kids 0=some (AK b):=ED (n:=0) rfl (by rw [W];rfl)
  have E:=aoE (b:=1) M.1
  rw [aq5] at j
  have step: ∀ {phi:LC} {A:Tm} {L:Int},aq phi/\phi.length<1073741824->Sm 20000 A->am A<=200->asP (aw 1099511627776 acc.length [Br.mk b.face [aml phi A (AK b)]].length) (fun _=>E7 k I t z line q x m L (acc++[Br.mk b.face [aml phi A (AK b)]]) (((p++[b]).length:Nat):Int))=
    I (ar_ (stE L (bE (amw t.r line r) fun l'=> .ok (.mk 15 0 alH [] [q.1,.mk z.1 z.2.1 z.2.2.1 z.2.2.2.1 z.2.2.2.2 []] (acc++[Br.mk b.face [aml phi A (AK b)]]++l'))))):=by
   intro phi A L J ad az
   rw [J5 (by simp;omega)]
   have hs:=aol J ad B.sm (by omega) (by have:=B.dep;omega)
   refine ih (p++[b]) _ m L e4 F (Ju hb (G9 Y) (hs.mono (by omega))) ?_ (by rw [List.length_append,List.length_singleton];omega)
   rw [zF,aO,eB,aH,aH,aO]
   have:am (aml phi A (AK b))<=201:=by
    rw [am,aH,aH,aH,aO];have:=B.dep;omega
   omega
  simp only [E7,Jp,e1,ae,e2,sf,ag hk.fu,ar,v_ hk M.1.2 (G9 M).2 (show (0:Int)<=1/\(1:Int)<1000 by omega),hg,tO,aq3,e3]
  rw [v6 hk (b:=1) (fun _=>hl.isIn hk) (by omega)]
  by_cases hc:c=0
  ·subst hc
   rw [if_pos rfl,oH,amw]
   by_cases h1:(agS t.r 0 1).2=0
   ·rw [h1,kR,jF h1,aD]
    have ao:pH 1 1 line=acr 0 1 0 1 line:=if_pos hl.2
    rw [ao]
    cases hh:acr 0 1 0 1 line with
    |error e=>
     have:=amo line hh
     refine (step E aoi (by unfold noT;rw [am,aH,aO];omega)).trans ?_
     rw [show (tE (.error e)).2=e from rfl,lb (by omega)];rfl
    |ok A=>
     have fl:=jr (by omega) hl hh
     refine (step E fl.sm fl.dep).trans ?_
     rw [show (tE (.ok A)).2=0 from rfl,oH,aD]
     cases amw t.r line r with
     |error e=>rfl
     |ok l'=>rw [aD,aD,aD,List.append_assoc];rfl
   ·rw [n9 h1]
    refine (step E aoi (by unfold noT;rw [am,aH,aO];omega)).trans ?_
    rw [lb h1,iO h1];rfl
  ·rw [if_neg hc,n9 hc,lb hc]
   refine (step (phi:=[]) ⟨(fun c hc=>by cases hc),by simp⟩ aoi (by unfold noT;rw [am,aH,aO];omega)).trans ?_
   rw [lb hc]
theorem E5 {t:Tm} (h:Fm t) {kd:Int} (hk:t.kind=kd) {n:Nat} (hn:ct kd=n):t.kids.length=n:=by
 have:=h.nk
 rw [hk,hn] at this;omega
theorem KQ {t a b:Tm} (h:t.kids=[a,b]):af t.kids 0=some a/\af t.kids 1=some b:=by rw [h];exact ⟨rfl,rfl⟩
theorem ap4 {t:Tm} (h:Fm t):aq t.r/\t.r.length<1073741824:=by
 obtain ⟨x,z,A,j,q,B,E⟩:=h.ok.no
 exact ⟨j,q⟩
theorem nS {r:LC} (q:RX true r) {line x y w:Tm} (hl:line.kids=[y]) (j:x.kids=[w]) (fl:Fm line) (fx:Fm x):Sm 40010 (.mk 26 0 alH x.r [aml r y w] []):=by
 have fy:=fl.kid (x:=y) (by rw [hl];simp)
 have fw:=fx.kid (x:=w) (by rw [j];simp)
 have h:=aol (G9 q) fy.sm fw.sm (by have:=fy.dep;omega) (by have:=fw.dep;omega)
 have hd:am (aml r y w)<=201:=by rw [am,aH,aH,aH,aO];have:=fy.dep;have:=fw.dep;omega
 exact (Hn (kd:=26) (by omega) (ap4 fx) (ks:=[aml r y w]) (sys:=[]) (n:=40001) (m:=0) (fun x j=>by simp at j;subst j;exact ⟨h.ok,by omega⟩) (by simp) (by rw [ay,ay];have:=h.siz;omega) (by rw [ba];trivial) (by simp) (by rw [aO];omega) (by rw [aI];omega)).mono (by omega)
theorem aoX {r:LC} (z:RX true r) {e line a:Tm} (he:Sm 20000 e) (A:am e<=200) (fl:Fm line) (fa:Fm a) {acc:LB} (hb:Bs' 50000 acc) (j:acc.length<=20000) (hd:aO acc<=299):Sm 1000070000 (.mk 15 0 alH [] [e,aml r line a] acc):=by
 have h:=aol (G9 z) fl.sm fa.sm (by have:=fl.dep;omega) (by have:=fa.dep;omega)
 have B:am (aml r line a)<=201:=by rw [am,aH,aH,aH,aO];have:=fl.dep;have:=fa.dep;omega
 have E:aI acc<=1000000000:=aru hb.siz (aru (arA _ j) (by omega))
 exact (Hn (kd:=15) (by omega) (r:=[]) ⟨(fun c hc=>by cases hc),by simp⟩ (ks:=[e,aml r line a]) (sys:=acc) (n:=60001) (m:=1000000000) (fun x q=>by
  simp at q
  rcases q with rfl|rfl
  ·exact ⟨he.ok,by omega⟩
  ·exact ⟨h.ok,by omega⟩) (by simp) (by rw [ay,ay,ay];have:=h.siz;have:=he.siz;omega) hb.ok (by omega) hd E).mono (by omega)
theorem ap_ (hk:F3 k) {t:Tm} (O:In k t) (I:Tm×Bool×Int->OS S):JG k t I=I (h_ t):=by
 simp only [JG,SP,ag hk.fu,ar,amv O.1 O.2.1 O.dep]
 unfold h_
 by_cases h0:bw t=0
 case neg=>rw [dj h0,aqD,ae,if_pos h0];rfl
 rw [h0,show (!((0:Int)==0))=false from rfl,n3,if_neg (by simp)]
 have ft:Fm t:=⟨O.1,h0⟩
 by_cases j:t.kind=14
 case neg=>rw [beq_false_of_ne j,aqD,ae,if_neg (fun h=>j h.1)];rfl
 rw [j,show (!((14:Int)==14))=false from rfl,n3]
 obtain ⟨line,x,B⟩:=I8 (E5 ft j (n:=2) rfl)
 obtain ⟨g0,g1⟩:=KQ B
 obtain ⟨d0,d1⟩:=EC B
 have fl:Fm line:=ft.kid (by rw [B];simp)
 have fx:Fm x:=ft.kid (by rw [B];simp)
 have hr:=ft.r14 j
 rw [d0,d1,g0,sf]
 by_cases E:line.kind=23
 case neg=>rw [beq_false_of_ne E,aqD,ae,if_neg (fun h=>E h.2.1)];rfl
 rw [E,show (!((23:Int)==23))=false from rfl,n3,vU t O.1 _ O.2.1,g0,sf,g1,sf]
 obtain ⟨y,hy⟩:=jH (E5 fl E (n:=1) rfl)
 have fin: ∀ {z:Tm},In k z-> ∀g:Tm×Bool×Int->OS S,ly k z 0 (fun r=>g (r.1,r.2.1,r.2.2.1))=g (ar_ (.ok z)):=fun hz g=>by
  rw [Ry hk hz];exact aae g
 by_cases J:x.kind=24
 ·rw [J,show ((24:Int)==24)=true from rfl,ae,if_pos ⟨rfl,rfl,.inl rfl⟩,fin (fx.isIn hk)]
  unfold gh;rw [if_pos (.inl J)]
 rw [beq_false_of_ne J,n3]
 by_cases L:x.kind=25
 ·rw [L,show ((25:Int)==25)=true from rfl,ae,if_pos ⟨rfl,rfl,.inr (.inl rfl)⟩,fin (fx.isIn hk)]
  unfold gh;rw [if_pos (.inr L)]
 rw [beq_false_of_ne L,n3]
 by_cases A:x.kind=26
 ·obtain ⟨w,hw⟩:=jH (E5 fx A (n:=1) rfl)
  have e1:af line.kids 0=some y:=by rw [hy];rfl
  have e2:af x.kids 0=some w:=by rw [hw];rfl
  rw [A,show ((26:Int)==26)=true from rfl,ae,if_pos ⟨rfl,rfl,.inr (.inr (.inl rfl))⟩,e1,sf,e2,sf]
  simp only [tO]
  rw [fin ((nS hr hy hw fl fx).isIn hk (by omega))]
  unfold gh;rw [if_neg (by omega),if_pos A,hy,hw];rfl
 rw [beq_false_of_ne A,n3]
 by_cases F:x.kind=15
 case neg=>rw [beq_false_of_ne F,n3,if_neg (fun h=>by omega)];rfl
 obtain ⟨u,a,M⟩:=I8 (E5 fx F (n:=2) rfl)
 obtain ⟨az,ad⟩:=KQ M
 obtain ⟨a6,ao⟩:=EC M
 have fa:Fm a:=fx.kid (by rw [M];simp)
 obtain ⟨sy,T⟩:=fx.sy F
 rw [F,show ((15:Int)==15)=true from rfl,ae,if_pos ⟨rfl,rfl,.inr (.inr (.inr rfl))⟩,vZ hk (fun _=>fl.isIn hk),ad,sf]
 simp only [tO,kR]
 have ax:an8 0 [⟨0,0⟩] line=ame 0 [⟨0,0⟩] line:=if_pos fl.2
 rw [ax]
 have W:Sm 20000 (tE (ame 0 [⟨0,0⟩] line)).1/\am (tE (ame 0 [⟨0,0⟩] line)).1<=200:=by
  cases hh:ame 0 [⟨0,0⟩] line with
  |error e=>exact ⟨aoi,by show am noT<=200;unfold noT;rw [am,aH,aO];omega⟩
  |ok e=>
   obtain ⟨q1,q2,q3⟩:=akM fl hh
   exact ⟨⟨q1,q3,(show am e<=300 by omega)⟩,q2⟩
 have:=apN hk I (t:=t) (line:=line) (x:=x) (z:=(14,0,alH,t.r,[line,a])) (q:=tE (ame 0 [⟨0,0⟩] line)) hr fl sy T (fun acc hb Y hd=>(aoX hr W.1 W.2 fl fa hb Y hd).isIn hk (by omega)) x.sys [] [] k (tE (ame 0 [⟨0,0⟩] line)).2 rfl (by have:4294968296<=k:=hk;omega) (Dp _) (by rw [aO];omega) (by simpa using T)
 refine alQ this ?_
 unfold gh
 rw [if_neg (by omega),if_neg A,ao]
 cases hh:ame 0 [⟨0,0⟩] line with
 |error e=>
  have:=awV hh
  rw [show (tE (.error e)).2=e from rfl,lb (by omega)];rfl
 |ok e=>rfl


section
variable {hd:Tm->Int->Tm->Int->Int->(Tm->OS S)->OS S} {t u:Tm} {n v d:Int}
end

theorem aeW (hk:Fu k) (I:Tm×Int->OS S) {c0 c2:Int} {c1:Tm} {ns:List Int} (hl:ns.length<1000) (hn: ∀x∈ns,0<=x):
  ∀ (r p:List Int) (m:Nat),ns=p++r->r.length<m->nD k I c0 c1 c2 ns m (p.length:Int)=yY k c0 c1 c2 fun j=>Pan.elim j (fun j=>I (j,0)) fun A=>I (noT,A):=by
 intro r
 induction r with
 |nil=>
  intro p m h q
  obtain ⟨m,rfl,z⟩:=amr q
  simp only [nD,xb,akb h,n3,ag hk,ar];rfl
 |cons x r B=>
  intro p m h q
  obtain ⟨m,rfl,z⟩:=amr q
  obtain ⟨E,F,J,L⟩:=apy h (by omega)
  have M:=hn x (by grind)
  grind [nD,xb,aY]
theorem ajk (hk:F3 k) {t:Tm} (h:Fm t) {f b:Int} (hf:0<=f/\f<=1000000) (hb:0<=b/\b<=1000000) (I:Tm×Int->OS S):avD k t f b I=I (tE (acr b 0 f 0 t)):=by
 have j:su .i64 (1000000-b)=1000000-b:=aaf (by omega) (by omega)
 have hl:=aeW hk.fu I (c0:=b) (c2:=f) (c1:=t) (ns:=[f,b,1000000-b]) (by simp) (by grind) [f,b,1000000-b] [] k rfl (by grind)
 have hl:nD k I b t f [f,b,1000000-b] k 0=_:=hl
 simp only [avD,ag hk.fu,ar,j,axS,BR,amv h.ok (h.fd hk) (show am t<1099511627776 by have:=h.dep;omega),h.2,hl,yY]
 rw [show ((0:Int)==0)=true from rfl,aq6,n3,if_neg (by omega),ayF (by omega) (by unfold aG;omega) t h.ok h.rows _ (h.fd hk) (h.vp (by omega) (by omega)),ij,amt _ I]
 rfl
def oK (f b:Int) (t:Tm):Except Int Tm:=sh t (acr b 0 f 0 t)
theorem ai0 (hk:F3 k) {t:Tm} (j:In k t) {f b:Int} (hf:0<=f/\f<=1000000) (hb:0<=b/\b<=1000000) (I:Tm×Int->OS S):avD k t f b I=I (tE (oK f b t)):=by
 unfold oK sh
 by_cases h:bw t=0
 ·rw [if_pos h];exact ajk hk ⟨j.1,h⟩ hf hb I
 ·rw [if_neg h]
  simp only [avD,ag hk.fu,ar,axS,BR,amv j.1 j.2.1 j.dep,dj h,aqD,ae];rfl
theorem aJg {a b:Int} {t:Tm}: ∀e,oK a b t= .error e->0<e/\e<=1000:=fun e h=>z7 (fun e h=>amo t h) h
theorem ahE {n:Int} {t u:Tm}: ∀e,ri n t u= .error e->0<e/\e<=1000:=fun e h=>z7 (fun e h=>z7 (fun e h=>AL h) h) h
theorem Hf (hk:F4 k) {t u:Tm} {c:Int} (j:c=0->In k t/\In k u) (I:Tm×Int->OS S):za k t u c I=I (mM c (ri 0 t u)):=by
 simp only [za,ag hk.f3.fu,dG,ar,rJ]
 exact Az c (fun h g=>ajv hk (j h).1 (j h).2 (by omega) g) (FP ahE) I
theorem ajm (hk:F3 k) {t a:Tm} {sys:LB} {c:Int} (j:c=0->In k t/\In k a/\In k (J4 sys)) (q: ∀e,c6 [t,a,J4 sys] (amg t a sys)= .error e->e≠0) (I:Tm×Int->OS S):y_ k t a sys c I=I (mM c (c6 [t,a,J4 sys] (amg t a sys))):=by
 simp only [y_,ag hk.fu,dG,ar,rJ]
 exact Az c (fun h g=>aiO hk (j h).1 (j h).2.1 (j h).2.2 g) q I
theorem Rx (hk:F3 k) {line a:Tm} {sys:LB} {c:Int} (j:c=0->In k line/\In k a/\In k (J4 sys)) (q: ∀e,c6 [line,a,J4 sys] (dF line a sys)= .error e->e≠0) (I:Tm×Int->OS S):y9 k line a sys c I=I (mM c (c6 [line,a,J4 sys] (dF line a sys))):=by
 simp only [y9,ag hk.fu,dG,ar,rJ]
 exact Az c (fun h g=>aiI hk (j h).1 (j h).2.1 (j h).2.2 g) q I
theorem ZS {m:Tm} (fm:Fm m):(bE (oK 1 0 m) fun y=>pH 0 1 y)=J6 0 1 m:=by
 have hd:=fm.dep
 have h1:oK 1 0 m=acr 0 0 0 0 m:=by
  unfold oK sh
  rw [if_pos fm.2]
  exact agi m (by omega) (by omega)
 rw [h1]
 unfold J6
 cases h:acr 0 0 0 0 m with
 |error e=>rfl
 |ok y=>
  rw [aD,aD]
  have fy:=jr (by omega) fm h
  unfold pH sh
  rw [if_pos fy.2]
theorem Rv (hk:F3 k) {m:Tm} {c:Int} (j:c=0->Fm m) (I:Tm×Int->OS S):y8 k m 0 1 c I=I (mM c (J6 0 1 m)):=by
 simp only [y8,ag hk.fu,dG,ar,rJ]
 by_cases hc:c=0
 case neg=>rw [dj hc,aqD,ae,n9 hc];rfl
 have fm:=j hc
 subst hc
 rw [show (!((0:Int)==0))=false from rfl,n3,kR,<-ZS fm,ai0 hk (fm.isIn hk) (by omega) (by omega)]
 have hv:oK 1 0 m=acr 0 0 1 0 m:=by unfold oK sh;rw [if_pos fm.2]
 rw [if_pos rfl,hv]
 cases h:acr 0 0 1 0 m with
 |error e=>
  have he:=amo m h
  rw [show (tE (.error e)).2=e from rfl,if_neg (show e≠0 by omega)]
  dsimp only
  rw [dj (show e≠0 by omega),aqD,ae];rfl
 |ok y=>
  have fy:=jr (by omega) fm h
  rw [show (tE (.ok y)).2=0 from rfl,show (tE (.ok y)).1=y from rfl,if_pos rfl]
  dsimp only
  rw [show (!((0:Int)==0))=false from rfl,n3,aiM hk (fy.isIn hk) (by omega) (by omega),aD]
  have:=Lw (pH 0 1 y) (FP aak) 0
  rw [kR] at this
  rw [this]
def alM:LT->Except Int (LT)
 |[]=> .ok []
 |y::l=>bE (J6 0 1 y) fun h=>bE (alM l) fun j=> .ok (h::j)
abbrev ig (kd:Int) (p:Tm) (l:LT) (a:Tm):Tm:= .mk kd 0 alH [] (p::l++[a]) []
def ama (kd:Int) (b:Tm) (h:LT):LB->Except Int (LB)
 |[]=> .ok []
 |y::l=>bE (alM h) fun m=>bE (ama kd b h l) fun j=> .ok (.mk y.face [ig kd b m (AK y)]::j)
def amf (kd:Int) (p:Tm) (h:LT) (x:Tm):Except Int Tm:=
 bE (c6 [x.kids.getD 0 noT,x.kids.getD 1 noT,J4 x.sys] (amg (x.kids.getD 0 noT) (x.kids.getD 1 noT) x.sys)) fun f=>
 bE (J6 0 1 p) fun b=>bE (ams 0 b f) fun line=>bE (ama kd b h x.sys) fun l=>
 c6 [line,ig kd p h (x.kids.getD 1 noT),J4 l] (dF line (ig kd p h (x.kids.getD 1 noT)) l)
def adR (t:Tm):Tm:=t.kids.getD (t.kids.length-1) noT
def ac3 (t:Tm):LT:=(t.kids.take (t.kids.length-1)).drop 1
def pP (t:Tm):Tm×Bool×Int:=
 if bw t≠0 then (noT,false,bw t) else
 if (t.kind=22\/t.kind=27)/\(adR t).kind=15 then ar_ (amf t.kind (t.kids.getD 0 noT) (ac3 t) (adR t)) else (noT,false,0)
theorem Ue: ∀ {l:LT} {e:Int},alM l= .error e->0<e/\e<=1000:=by
 intro l
 induction l with
 |nil=>intro e h;cases h
 |cons y l j=>
  intro e h
  rw [alM] at h
  rcases be h with h|⟨_,_,h⟩
  ·exact al3 h
  rcases be h with h|⟨_,_,h⟩
  ·exact j h
  ·cases h
theorem aeM (I:Int×Int×BA×LT×Int->OS S) (hk:F3 k) {c0 a:Tm} {c1 e:Int} {q:LT} (z:List.drop (arM 1) (List.take (arM c1) c0.kids)=q) (hl:q.length<1073741823):
  ∀ (r p acc:LT) (m:Nat),q=p++r->r.length<m->acc.length+r.length<1073741824->
   auv k I c0 c1 a 0 m e acc (p.length:Int)=I (c0.kind,0,alH,acc++r++[a],e):=by
 intro r
 induction r with
 |nil=>
  intro p acc m h x ha
  obtain ⟨m,rfl,j⟩:=amr x
  simp only [auv,aBi,z,akb h,n3,ar,ag hk.fu,zc,arE]
  rw [J5 (by simp;simp at ha;omega)]
 |cons y r A=>
  intro p acc m h x ha
  obtain ⟨m,rfl,j⟩:=amr x
  obtain ⟨B,E,F,J⟩:=apy h (by omega)
  rw [aq5] at ha
  simp only [auv,aBi,z,B,ae,E,sf,ar,F]
  rw [show decide ((0:Int)>0)=false from rfl,n3,J5 (by simp;omega)]
  refine (A (p++[y]) (acc++[y]) m J j (by rw [List.length_append,List.length_singleton];omega)).trans ?_
  simp
theorem aeN (I:Int×Int×BA×LT×Int->OS S) (hk:F3 k) {c0 a:Tm} {c1:Int} {q:LT} (F:List.drop (arM 1) (List.take (arM c1) c0.kids)=q) (hl:q.length<1073741823) (hf: ∀y∈q,Fm y):
  ∀ (r p acc:LT) (m:Nat) (c:Int),q=p++r->r.length<m->acc.length+r.length<1073741824->
   ∃l,auv k I c0 c1 a 1 m c acc (p.length:Int)=I (c0.kind,0,alH,acc++l++[a],match stE c (alM r) with| .ok _=>0| .error e=>e)/\ ∀l',stE c (alM r)= .ok l'->l=l':=by
 intro r
 induction r with
 |nil=>
  intro p acc m c h z ha
  obtain ⟨m,rfl,x⟩:=amr z
  refine ⟨[], ?_,fun l' h=> ?_⟩
  ·simp only [auv,aBi,F,akb h,n3,ar,ag hk.fu,zc,arE]
   rw [J5 (by simp;simp at ha;omega)]
   by_cases hc:c=0
   ·subst hc;rfl
   ·rw [lb hc]
  ·by_cases hc:c=0
   ·subst hc;rw [oH,alM] at h;injection h
   ·rw [lb hc] at h;cases h
 |cons y r J=>
  intro p acc m c h z ha
  obtain ⟨m,rfl,x⟩:=amr z
  obtain ⟨L,M,O,T⟩:=apy h (by omega)
  rw [aq5] at ha
  have fy:Fm y:=hf y (by rw [h];simp)
  have E:wA 0 1 y=J6 0 1 y:=if_pos fy.2
  obtain ⟨l,h1,h2⟩:=J (p++[y]) (acc++[(mM c (J6 0 1 y)).1]) m (mM c (J6 0 1 y)).2 T x (by rw [List.length_append,List.length_singleton];omega)
  have B:stE c (alM (y::r))=bE (stE c (J6 0 1 y)) fun A=>bE (stE (mM c (J6 0 1 y)).2 (alM r)) fun l'=> .ok (A::l'):=by
   by_cases hc:c=0
   ·subst hc
    rw [oH,oH,alM,kR]
    cases J6 0 1 y with
    |error e=>rfl
    |ok A=>rfl
   ·rw [lb hc,lb hc];rfl
  refine ⟨(mM c (J6 0 1 y)).1::l, ?_,fun l' j=> ?_⟩
  ·simp only [auv,aBi,F,L,ae,M,sf,ar,O,ag hk.fu]
   rw [show decide ((1:Int)>0)=true from rfl,ae,ajn hk (fun _=>fy.isIn hk) (by omega) (by omega),E,J5 (by simp;omega)]
   refine h1.trans ?_
   rw [B]
   have W:(match stE (mM c (J6 0 1 y)).2 (alM r) with| .ok _=>(0:Int)| .error e=>e)=match bE (stE c (J6 0 1 y)) fun A=>bE (stE (mM c (J6 0 1 y)).2 (alM r)) fun l'=> .ok (A::l') with| .ok _=>(0:Int)| .error e=>e:=by
    by_cases hc:c=0
    ·subst hc
     rw [oH,kR]
     cases Y:J6 0 1 y with
     |error e=>
      have he:=al3 Y
      rw [show (tE (.error e)).2=e from rfl,lb (show e≠0 by omega)];rfl
     |ok A=>
      rw [show (tE (.ok A)).2=0 from rfl,oH,aD]
      cases alM r<;>rfl
    ·rw [n9 hc,lb hc,lb hc];rfl
   rw [W]
   simp<;>rfl
  ·rw [B] at j
   obtain ⟨A,g1,j⟩:=i8 j
   obtain ⟨l2,g2,j⟩:=i8 j
   injection j with j
   subst j
   have hc:c=0:=by
    by_cases hc:c=0
    ·exact hc
    ·rw [lb hc] at g1;cases g1
   subst hc
   rw [oH] at g1
   rw [h2 l2 g2,kR,g1];rfl
theorem ao8 {n:Nat} {l:LB} (h:Bs' n l) {f:LC} (hf:aq f/\f.length<1073741824) {t:Tm} (j:Sm n t):Bs' n (⟨f,[t]⟩::l):=by
 refine ⟨?_, ?_, ?_⟩
 ·rw [ba,fc,aZ,aZ];exact ⟨⟨⟨hf.1,hf.2,by simp⟩,j.ok,trivial⟩,h.ok⟩
 ·rw [aI,fG,ay,ay,aq5,Nat.succ_mul]
  have:=h.siz;have:=j.siz;omega
 ·rw [aO,eB,aH,aH]
  have:=h.dep;have:=j.dep;omega
theorem apc {r:LC} (E:RX true r) {line:Tm} (fl:Fm line): ∀ {l l':LB},(∀b∈l,b.kids=[AK b]/\Fm (AK b)/\RX true b.face)->amw r line l= .ok l'->Bs' 50000 l'/\l'.length=l.length/\aO l'<=299:=by
 intro l
 induction l with
 |nil=>intro l' _ h;cases h;exact ⟨Dp _,rfl,by rw [aO];omega⟩
 |cons b l F=>
  intro l' hl h
  rw [amw] at h
  cases h1:NF (agS r 0 1) with
  |error e=>rw [h1] at h;cases h
  |ok phi=>
  rw [h1,aD] at h
  cases h2:acr 0 1 0 1 line with
  |error e=>rw [h2] at h;cases h
  |ok I=>
  rw [h2,aD] at h
  cases z:amw r line l with
  |error e=>rw [z] at h;cases h
  |ok M=>
  rw [z,aD] at h
  injection h with h
  subst h
  obtain ⟨i1,i2,i3⟩:=F (fun x J=>hl x (by simp [J])) z
  obtain ⟨O,A,L⟩:=hl b (by simp)
  have j:=jr (by omega) fl h2
  have q:aq phi/\phi.length<1073741824:=by
   have B:=aoE (b:=1) E.1
   unfold NF at h1
   split at h1
   ·injection h1 with h1;subst h1;exact B
   ·cases h1
  have hs:=aol q j.sm A.sm (by have:=j.dep;omega) (by have:=A.dep;omega)
  refine ⟨ao8 i1 (G9 L) (hs.mono (by omega)),by rw [aq5,aq5,i2], ?_⟩
  rw [aO,eB,aH,aH]
  have:am (aml phi I (AK b))<=201:=by
   rw [am,aH,aH,aH,aO];have:=A.dep;have:=j.dep;omega
  omega
theorem nR (hk:F3 k) {t:Tm} (ft:Fm t) (q:t.kind=14) (z:(t.kids.getD 0 noT).kind=23) (L:(t.kids.getD 1 noT).kind=24\/(t.kids.getD 1 noT).kind=25\/(t.kids.getD 1 noT).kind=26\/(t.kids.getD 1 noT).kind=15) {y:Tm} (h:gh t.r (t.kids.getD 0 noT) (t.kids.getD 1 noT)= .ok y):In k y/\0<y.kind:=by
 obtain ⟨line,x,j⟩:=I8 (E5 ft q (n:=2) rfl)
 obtain ⟨d0,d1⟩:=EC j
 have fl:Fm line:=ft.kid (by rw [j];simp)
 have fx:Fm x:=ft.kid (by rw [j];simp)
 have F:=ft.r14 q
 rw [d0] at z
 rw [d0,d1] at h
 rw [d1] at L
 unfold gh at h
 split at h
 case isTrue hc=>injection h with h;subst h;exact ⟨fx.isIn hk,by omega⟩
 rename_i hc
 split at h
 case isTrue A=>
  injection h with h;subst h
  obtain ⟨u,hu⟩:=jH (E5 fl z (n:=1) rfl)
  obtain ⟨w,J⟩:=jH (E5 fx A (n:=1) rfl)
  have:=nS F hu J fl fx
  rw [hu,J]
  exact ⟨this.isIn hk (by omega),show (0:Int)<26 by decide⟩
 rename_i A
 have B:x.kind=15:=by omega
 obtain ⟨u,a,E⟩:=I8 (E5 fx B (n:=2) rfl)
 obtain ⟨M,I⟩:=EC E
 have fa:Fm a:=fx.kid (by rw [E];simp)
 obtain ⟨sy,O⟩:=fx.sy B
 cases h1:ame 0 [⟨0,0⟩] line with
 |error e=>rw [h1] at h;cases h
 |ok e=>
 rw [h1,aD] at h
 cases h2:amw t.r line x.sys with
 |error e=>rw [h2] at h;cases h
 |ok l=>
 rw [h2,aD,I] at h
 injection h with h
 subst h
 obtain ⟨T,q2,W⟩:=akM fl h1
 obtain ⟨Y,b2,b3⟩:=apc F fl sy h2
 exact ⟨(aoX F ⟨T,W,(show am e<=300 by omega)⟩ q2 fl fa Y (by omega) b3).isIn hk (by omega),show (0:Int)<15 by decide⟩
theorem apb (hk:F3 k) {t:Tm} (j:In k t):In k (h_ t).1:=by
 unfold h_
 by_cases h:bw t=0
 case neg=>rw [if_pos h];exact gQ hk
 rw [if_neg (by simp [h])]
 have ft:Fm t:=⟨j.1,h⟩
 split
 case isTrue hc=>
  cases q:gh t.r (t.kids.getD 0 noT) (t.kids.getD 1 noT) with
  |error e=>exact gQ hk
  |ok y=>
   have:=nR hk ft hc.1 hc.2.1 hc.2.2 q
   show In k (if bw y=0 then (y,true,(0:Int)) else (noT,false,bw y)).1
   split
   ·exact this.1
   ·exact gQ hk
 case isFalse hc=>exact gQ hk
end Go.Proofs.YtgmmefmmnakbpaaGreatDoor
namespace Go.Proofs.YtgmmefmmnakbpaaGreatDoor
open Go PI
set_option maxRecDepth 20000
def b7 (h:Nat->Prop) (f:LC):Prop:= ∀c∈f,∀j,hp c j\/hn c j->h j
theorem anY {q x:Nat->Prop} {f:LC} (h:b7 q f) (z: ∀j,q j->x j):b7 x f:=fun c hc j hj=>z j (h c hc j hj)
theorem al7 (h:Nat->Prop):b7 h []:=fun c hc=>by cases hc
theorem azw {j:Nat->Prop} {f g:LC} (h:b7 j f) (hs: ∀c∈g,c∈f):b7 j g:=fun c hc=>h c (hs c hc)
theorem uZ {j:Nat->Prop} {f g:LC} (h:b7 j f) (h':b7 j g):b7 j (f++g):=fun c hc=>(atc.1 hc).elim (h c) (h' c)
theorem jy {j:Nat->Prop} {f:LC} (h:b7 j f):b7 j (bp f).1:=by
 unfold bp
 split
 ·split
  ·exact al7 _
  ·exact azw h fun c hc=>(mem_mins.1 hc).1
 ·exact al7 _
theorem aoG {q:Nat->Prop} {f g:LC} (h:b7 q f) (h':b7 q g):b7 q (meets f g):=fun c hc j hj=>by
 unfold meets at hc
 obtain ⟨a,ha,hc⟩:=List.mem_flatMap.1 hc
 obtain ⟨b,hb,rfl⟩:=arR.1 hc
 rw [apD,apA] at hj
 rcases hj with (hj|hj)|(hj|hj)
 ·exact h a ha j (.inl hj)
 ·exact h' b hb j (.inl hj)
 ·exact h a ha j (.inr hj)
 ·exact h' b hb j (.inr hj)
theorem lits_one {q:Nat->Prop} {c:Cl}:b7 q [c]↔ ∀j,hp c j\/hn c j->q j:=⟨fun h=>h c (by simp),fun h d hd=>by simp at hd;subst hd;exact h⟩
theorem aor {j:Nat->Prop} {f g:LC} (h:b7 j f) (h':b7 j g):b7 j (alO f g).1:=jy (uZ h h')
theorem aou {j:Nat->Prop} {f g:LC} (h:b7 j f) (h':b7 j g):b7 j (alV f g).1:=jy (aoG h h')
theorem aos {j:Nat->Prop} {f:LC} (h:b7 j f):b7 j (gN f).1:=jy (azw h fun c hc=>(Ds hc).1)
theorem aoq {j:Nat->Prop} {step:LC->Cl->LC×Int}: ∀ {l h:LC},(∀c∈l,∀h,b7 j h->b7 j (step h c).1)->b7 j h->b7 j (adU step h l).1:=by
 intro l
 induction l with
 |nil=>intro h _ q;exact q
 |cons c l x=>
  intro h hs q
  unfold adU
  split
  ·exact x (fun d hd=>hs d (by simp [hd])) (hs c (by simp) h q)
  ·first|exact al7 _|exact hs c (by simp) h q
theorem u6 {z:Nat->Prop} {c:Cl} (hc:RC c) (h: ∀j,hp c j\/hn c j->z j):b7 z (oj c).1:=by
 refine jy fun d hd j hj=> ?_
 have hl: ∀ {s:Int} {x:Int},x∈amp s-> ∃n:Nat,n<24/\s.toNat.testBit n=true/\x=n:=by
  intro s x q
  unfold amp ints at q
  obtain ⟨n,hn,rfl⟩:=arR.1 q
  have:=mem_bitsN.1 hn
  exact ⟨n,this.1,this.2,rfl⟩
 unfold jI at hd
 rcases atc.1 hd with hd|hd
 ·obtain ⟨x,q,rfl⟩:=arR.1 hd
  obtain ⟨n,h1,h2,rfl⟩:=hl q
  rcases hj with hj|hj
  ·exact absurd hj (apE n h1 j)
  ·rw [(apB n h1 j).1 hj];exact h n (.inl h2)
 ·obtain ⟨x,q,rfl⟩:=arR.1 hd
  obtain ⟨n,h1,h2,rfl⟩:=hl q
  rcases hj with hj|hj
  ·rw [(apF n h1 j).1 hj];exact h n (.inr h2)
  ·exact absurd hj (apC n h1 j)
theorem u5 {q:Nat->Prop} {f:LC} (hf:RF f) (h:b7 q f):b7 q (alU f).1:=
 aoq (fun c hc g x=>aou x (u6 (hf.rc hc) (h c hc))) (lits_one.2 fun j hj=>by rcases hj with hj|hj<;>simp [hp,hn] at hj)
theorem apz {c:Cl} {n:Nat} (q:n<24) {j:Nat} (h:hp (gap n c) j\/hn (gap n c) j):(hp c j\/hn c j)/\j≠n:=by
 unfold hp hn gap at h
 rw [ao3 q,ao3 q] at h
 simp only [anZ,Bool.not_eq_true',decide_eq_false_iff_not] at h
 exact h.elim (fun h=>⟨.inl h.1.1,h.2⟩) fun h=>⟨.inr h.1.1,h.2⟩
theorem u7 {fa:Bool} {x:Nat->Prop} {n:Nat} (z:n<24) {f r:LC} (I:RF r) (h:b7 (fun j=>j≠n->x j) f) (h':b7 x r):b7 x (aoc fa f n r).1:=by
 have A: ∀c∈f,b7 x [gap n c]:=fun c hc=>lits_one.2 fun j hj=>by
  obtain ⟨h1,h2⟩:=apz z hj
  exact h c hc j h1 h2
 have E:b7 x (alU r).1:=u5 I h'
 unfold aoc
 cases fa
 ·show b7 x (iH f n r).1
  unfold iH
  split
  ·refine aoq (fun c hc g B=> ?_) (al7 _)
   have hA:b7 x (d_ n r c).1:=by
    unfold d_
    split
    ·exact aou (A c hc) h'
    ·exact A c hc
   have hB:b7 x (amk n r c (d_ n r c).1).1:=by
    unfold amk
    split
    ·split
     ·exact aou hA E
     ·exact al7 _
    ·exact hA
   unfold dY
   split
   ·split
    ·exact aor B hB
    ·exact al7 _
   ·exact al7 _
  ·exact al7 _
 ·show b7 x (iG f n r).1
  unfold iG
  split
  ·refine aoq (fun c hc g B=> ?_) (al7 _)
   have F: ∀ {q:LC×Int},b7 x q.1->b7 x (al8 n c g q).1:=fun J=>by
    unfold al8
    split
    ·split
     ·exact aor B (aos (aoG (A c hc) J))
     ·exact al7 _
    ·exact al7 _
   unfold alL
   split
   ·refine F ?_
    unfold ofS
    split
    ·exact aos h'
    ·exact al7 _
   ·split
    ·refine F ?_
     unfold ofZ
     split
     ·split
      ·exact aos E
      ·exact al7 _
     ·exact al7 _
    ·exact aor B (A c hc)
  ·exact al7 _
theorem u4 {A:Nat->Prop} {f:LC} (hf:RF f) {n:Nat} (q:n<24) (h:b7 (fun x=>x≠n->A (iy n x)) f):b7 A (ac2 n f):=by
 unfold ac2
 refine jy fun c hc j hj=> ?_
 obtain ⟨d,hd,rfl⟩:=arR.1 hc
 rcases hj with hj|hj
 ·obtain ⟨x,z,he,rfl⟩:=(ma q (hf.rc hd).1 j).1 hj
  exact h d hd x (.inl z) he
 ·obtain ⟨x,z,he,rfl⟩:=(ma q (hf.rc hd).2 j).1 hj
  exact h d hd x (.inr z) he
theorem aot {A:Nat->Prop} {f:LC} (hf:RF f) {n b:Nat} (q:(agS f n b).2=0) (h:b7 (fun x=>A (up1 n b x)) f):b7 A (agS f n b).1:=by
 unfold agS at q ⊢
 rw [if_pos hf.right] at q ⊢
 split at q
 case isFalse h1=>exact absurd q h1
 rename_i h1
 rw [if_pos h1]
 obtain ⟨B,E⟩:=apw h1
 refine jy ?_
 rw [B,as2]
 intro c hc j hj
 obtain ⟨d,hd,rfl⟩:=arR.1 hc
 obtain ⟨F,q2,I⟩:=apV (E d hd)
 rw [I] at hj
 rcases hj with hj|hj
 ·obtain ⟨x,z,rfl⟩:=(aoF (hf.rc hd).1 F j).1 hj
  exact h d hd x (.inl z)
 ·obtain ⟨x,z,rfl⟩:=(aoF (hf.rc hd).2 q2 j).1 hj
  exact h d hd x (.inr z)
theorem an1 {f:LC} (hf:RF f) {d:Int}:dg f d=true↔b7 (fun j=>(j:Int)<d) f:=by
 unfold dg
 rw [decide_eq_true_eq]
 have: ∀i:Nat,i∈bW (fS f)↔i<24/\ ∃c∈f,hp c i\/hn c i:=fun i=>by
  rw [mem_bitsN,D7]
  unfold jJ hp hn
  simp only [anZ,List.any_eq_true,Bool.or_eq_true,decide_eq_true_eq]
  exact ⟨fun h=>⟨h.1,h.2.1⟩,fun h=>⟨h.1,h.2,h.1⟩⟩
 constructor
 ·intro h c hc j hj
  exact h j ((this j).2 ⟨hj.elim (aoM (hf.rc hc)) (aoL (hf.rc hc)),c,hc,hj⟩)
 ·intro h i q
  obtain ⟨_,c,hc,hj⟩:=(this i).1 q
  exact h c hc i hj
theorem aov {f:LC} {d e:Int} (hf:RF f) (h:dg f d=true) (q:d<=e):dg f e=true:=by
 rw [an1 hf] at h ⊢
 exact anY h fun j hj=>by omega
theorem aBB {fa:Bool} {r f g:LC} {n D:Int} (hf:RF f) (O:RF r) (hn:0<=n) (T:n<=D) (hl:dg f (D+1)=true) (B:b7 (fun j=>j≠0/\(j:Int)<D-n+1) r) (h:foX 0 r fa n f= .ok g):dg g D=true:=by
 obtain ⟨n,rfl⟩:=aoh hn
 rw [uz] at h
 obtain ⟨m,h1,h⟩:=i8 h
 injection h with h;subst h
 have z:=rB hf h1
 rw [Int.zero_add]
 by_cases q:n<24
 ·have E:b7 (fun j=>j≠n->((j:Int)<D+1)) m/\(an7 f n->m=f)/\(¬an7 f n->b7 (fun j=>j≠n/\(j:Int)<D+1) m):=by
   rw [an1 hf] at hl
   unfold acJ at h1
   rw [Int.zero_add] at h1
   split at h1
   ·rename_i F
    obtain ⟨s,es,h1⟩:=i8 h1
    obtain ⟨M,rfl⟩:=rR es
    obtain ⟨h2,rfl⟩:=rR h1
    have I:b7 (fun j=>j≠n/\(j:Int)<D+1) (agS r 0 n).1:=aot (n:=0) O M (anY B fun j hj=>by unfold up1;rw [if_neg (by omega)];omega)
    have:=u7 (fa:=fa) (f:=f) q (kQ M) (anY hl fun j hj (J:j≠n)=>⟨J,hj⟩) I
    exact ⟨anY this fun j hj _=>hj.2,fun h=>absurd h (has_dims.1 F).2,fun _=>this⟩
   ·rename_i F
    injection h1 with h1;subst h1
    exact ⟨anY hl fun j hj _=>hj,fun _=>rfl,fun h=>absurd (has_dims.2 ⟨q,h⟩) F⟩
  rw [an1 (aad z.len)]
  refine u4 z q ?_
  by_cases hk:an7 f n
  ·have e:=E.2.1 hk
   subst e
   refine anY E.1 fun x A L=> ?_
   have:=A L
   unfold iy;split<;>omega
  ·refine anY (E.2.2 hk) fun x A _=> ?_
   have:=A.1;have:=A.2
   unfold iy;split<;>omega
 ·rw [nT z (by omega)]
  have:m=f:=by
   unfold acJ at h1
   rw [Int.zero_add,if_neg (fun h=>q (has_dims.1 h).1)] at h1
   injection h1 with h1;exact h1.symm
  subst this
  rw [an1 z] at hl ⊢
  refine fun c hc j hj=> ?_
  have:j<24:=hj.elim (aoM (z.rc hc)) (aoL (z.rc hc))
  omega
mutual
def bdT:Tm->Int
 | .mk kd _ _ _ h sys=>max (dI kd 0 h) (cx sys)
def dI (kd:Int) (i:Nat):LT->Int
 |[]=>0
 |t::l=>max (bJ kd i+bdT t) (dI kd (i+1) l)
def cx:LB->Int
 |[]=>0
 |b::l=>max (bdB b) (cx l)
def bdB:Br Tm->Int
 | .mk _ h=>cX h
def cX:LT->Int
 |[]=>0
 |t::l=>max (1+bdT t) (cX l)
end
abbrev bB (V D:Int) (t:Tm):Prop:=aqp true V D t=true
section
variable {bd:Bool} {vb db kd:Int}
end
theorem apg {fa:Bool} {f:LC} (hf:RX fa f) {n:Int} (hn:0<=n):RX fa (ac2 n f):=by
 obtain ⟨n,rfl⟩:=aoh hn
 by_cases h:n<24
 ·refine ⟨aad hf.1.len,fun e c hc=> ?_⟩
  have q:c∈f.map (jU n):=by
   rw [(As (DC (j:=n) hf.1.len)).1] at hc
   exact (mem_mins.1 hc).1
  obtain ⟨d,hd,rfl⟩:=arR.1 q
  refine calm_bits.2 fun j hj=> ?_
  obtain ⟨x,z,A,h1⟩:=(ma h (hf.1.rc hd).1 j).1 hj.1
  obtain ⟨y,B,E,h2⟩:=(ma h (hf.1.rc hd).2 j).1 hj.2
  have:x=y:=by unfold iy at h1 h2;split at h1<;>split at h2<;>omega
  subst this
  exact calm_bits.1 (hf.2 e d hd) x ⟨z,B⟩
 ·rw [nT hf.1 (by omega)];exact hf
theorem aoA {fa:Bool} {r f g:LC} {n:Int} (hf:RX fa f) (q:RF r) (hn:0<=n) (h:foX 0 r fa n f= .ok g):RX fa g:=by
 rw [uz] at h
 obtain ⟨m,h1,h⟩:=i8 h
 injection h with h;subst h
 rw [Int.zero_add]
 refine apg ?_ hn
 unfold acJ at h1
 split at h1
 ·obtain ⟨s,es,h1⟩:=i8 h1
  obtain ⟨j,rfl⟩:=rR es
  obtain ⟨h2,rfl⟩:=rR h1
  exact ap2 hf.1.2 (kQ j).2 h2
 ·injection h1 with h1;subst h1;exact hf
theorem aoo {r f g:LC} {fa:Bool} {n:Int} (hf:f.length=0) (h:foX 0 r fa n f= .ok g):g.length=0:=by
 rw [List.length_eq_zero_iff.1 hf] at h
 rw [apv h];rfl
abbrev lh (bd:Bool) (r:LC) (c:Int) (x:Tm):Prop:= ∀ {n V D:Int} {h:Tm},0<=n->n<=D->D-n=c->OkT x->RowsT x->aqp bd V (D+1) x=true->ab7 (foX 0 r false) (foX 0 r true) n x= .ok h->aqp bd V D h=true
section
variable {bd:Bool} {r:LC} {c kd:Int}
theorem aqk: ∀ {l l':LT} {i:Nat} {n V D:Int},(∀x∈l,lh bd r c x)->0<=n->n<=D->D-n=c->aZ l->dQ l->bO bd V (D+1) kd i l=true->aig (foX 0 r false) (foX 0 r true) n kd i l= .ok l'->bO bd V D kd i l'=true/\l'.length=l.length:=by
 intro l
 induction l with
 |nil=>intro l' i n V D _ _ _ _ _ _ _ h;rw [aig] at h;injection h with h;subst h;exact ⟨by rw [bO],rfl⟩
 |cons t l q=>
  intro l' i n V D h hn z hc ho j ha hl
  rw [aig] at hl
  obtain ⟨I,A,hl⟩:=i8 hl
  obtain ⟨m,B,hl⟩:=i8 hl
  injection hl with hl;subst hl
  rw [aZ] at ho
  rw [dQ] at j
  rw [bO,anZ] at ha ⊢
  have:=gr kd i
  obtain ⟨E,q2⟩:=q (fun x F=>h x (by simp [F])) hn z hc ho.2 j.2 ha.2 B
  refine ⟨⟨h t (by simp) (n:=n+bJ kd i) (D:=D+bJ kd i) (by omega) (by omega) (by omega) ho.1 j.1 ?_ A,E⟩,by rw [aq5,aq5,q2]⟩
  rw [show D+bJ kd i+1=D+1+bJ kd i by omega];exact ha.1
theorem aql: ∀ {l l':LT} {n V D:Int},(∀x∈l,lh bd r c x)->0<=n->n<=D->D-n=c->aZ l->dQ l->ca bd V (D+1) kd l=true->akP (foX 0 r false) (foX 0 r true) n kd l= .ok l'->ca bd V D kd l'=true/\l'.length=l.length:=by
 intro l
 induction l with
 |nil=>intro l' n V D _ _ _ _ _ _ _ h;rw [akP] at h;injection h with h;subst h;exact ⟨by rw [ca],rfl⟩
 |cons t l q=>
  intro l' n V D h hn z hc ho j ha hl
  rw [akP] at hl
  obtain ⟨I,A,hl⟩:=i8 hl
  obtain ⟨m,B,hl⟩:=i8 hl
  injection hl with hl;subst hl
  rw [aZ] at ho
  rw [dQ] at j
  rw [ca,anZ] at ha ⊢
  have:=atj kd
  obtain ⟨E,q2⟩:=q (fun x F=>h x (by simp [F])) hn z hc ho.2 j.2 ha.2 B
  refine ⟨⟨h t (by simp) (n:=n+av kd) (D:=D+av kd) (by omega) (by omega) (by omega) ho.1 j.1 ?_ A,E⟩,by rw [aq5,aq5,q2]⟩
  rw [show D+av kd+1=D+1+av kd by omega];exact ha.1
theorem aqm (J:RF r) (E:b7 (fun j=>j≠0/\(j:Int)<c+1) r): ∀ {l l':LB} {n V D:Int},(∀b∈l,∀x∈b.kids,lh bd r c x)->0<=n->n<=D->D-n=c->ba l->eA l->ck bd V (D+1) kd l=true->acM (foX 0 r false) (foX 0 r true) n kd l= .ok l'->
  ck bd V D kd l'=true/\(l.length=0->l'.length=0)/\(l.all (bX kd (D+1))=true->l'.all (bX kd D)=true):=by
 intro l
 induction l with
 |nil=>intro l' n V D _ _ _ _ _ _ _ h;rw [acM] at h;injection h with h;subst h;exact ⟨by rw [ck],fun h=>h,fun _=>rfl⟩
 |cons b l W=>
  intro l' n V D h hn F hc ho z ha hl
  rw [acM] at hl
  obtain ⟨o,q,hl⟩:=i8 hl
  obtain ⟨m,Y,hl⟩:=i8 hl
  injection hl with hl;subst hl
  obtain ⟨f,ks⟩:=b
  rw [ba,fc] at ho
  rw [eA,mZ] at z
  rw [ck,jT,anZ] at ha
  obtain ⟨L,q2,M⟩:=W (fun b hb=>h b (by simp [hb])) hn F hc ho.2 z.2 ha.2 Y
  rw [amn] at q
  obtain ⟨O,T,q⟩:=i8 q
  split at q
  ·injection q with q;subst q
   exact ⟨L,(fun h=>by cases h),fun h=>by rw [List.all_cons,anZ] at h;exact M h.2⟩
  ·obtain ⟨A,e4,q⟩:=i8 q
   injection q with q;subst q
   obtain ⟨q4,q5⟩:=aql (kd:=kd) (h ⟨f,ks⟩ (by simp)) hn F hc ho.1.2 z.1.2 ha.1 e4
   refine ⟨?_,(fun h=>by cases h),fun h=> ?_⟩
   ·show ck bd V D kd (⟨O,A⟩::m)=true
    rw [ck,jT,anZ];exact ⟨q4,L⟩
   ·show (Br.mk O A::m).all (bX kd D)=true
    rw [List.all_cons,anZ] at h ⊢
    refine ⟨?_,M h.2⟩
    have h1:=h.1
    unfold bX at h1 ⊢
    simp only [anZ,decide_eq_true_eq] at h1 ⊢
    have I:=(oB ho.1.1.1).1 h1.2.1
    have B:=aoA (fa:=true) ⟨I.1,fun _=>I.2⟩ J hn T
    exact ⟨by rw [q5];exact h1.1,RFa.right ⟨B.1,B.2 rfl⟩,aBB I.1 J hn F h1.2.2 (by rw [show D-n+1=c+1 by omega];exact E) T⟩
theorem aoV (I:RF r) (E:b7 (fun j=>j≠0/\(j:Int)<c+1) r) (t:Tm):lh bd r c t:=by
 induction t using gq with
 |h kd k nm O ks sys J L=>
  intro n V D t' hn M hc F q ha h
  have Y:=q
  rw [RowsT] at q
  rw [ab7] at h
  obtain ⟨r1,z,h⟩:=i8 h
  obtain ⟨ad,e2,h⟩:=i8 h
  obtain ⟨T,e3,h⟩:=i8 h
  injection h with h;subst h
  rw [aqp] at ha ⊢
  obtain ⟨o1,o2,o3,o4,o5,o6,o7⟩:=F.node
  have x:=F
  rw [OkT] at x
  simp only [anZ] at ha ⊢
  obtain ⟨q1,q2,q3,q4⟩:=ha
  obtain ⟨k1,k2⟩:=aqk J hn M hc x.2.1 q.2.1 q3 e2
  obtain ⟨s1,s2,s3⟩:=aqm I E L hn M hc x.2.2 q.2.2 q4 e3
  refine ⟨?_, ?_,k1,s1⟩
  ·cases bd with
   |false=>rfl
   |true=>
    have: ¬D+1>24:=by simpa using q1
    rw [decide_eq_false (by omega)];rfl
  unfold cL at q2 ⊢
  simp only [anZ,decide_eq_true_eq] at q2 ⊢
  obtain ⟨⟨a1,a2,a3,a4⟩,a5⟩:=q2
  refine ⟨⟨by rw [k2];exact a1,a2,a3,fun h=>s2 (a4 h)⟩, ?_⟩
  have B: ∀ {fa:Bool},dg O (D+1)=true->foX 0 r fa n O= .ok r1->dg r1 D=true:=fun hl he=>aBB q.1.1 I hn M hl (by rw [show D-n+1=c+1 by omega];exact E) he
  by_cases c4:kd=14
  ·subst c4
   rw [if_neg (by decide),if_neg (by decide),if_neg (by decide),if_pos rfl,anZ] at a5 ⊢
   rw [if_pos rfl] at z
   have W:=(oB o4).1 a5.1
   have A:=aoA (fa:=true) ⟨W.1,fun _=>W.2⟩ I hn z
   exact ⟨RFa.right ⟨A.1,A.2 rfl⟩,B a5.2 z⟩
  ·rw [if_neg c4] at z
   rw [if_neg c4] at a5 ⊢
   by_cases c1:kd=1
   ·rw [if_pos c1] at a5 ⊢
    simp only [anZ,decide_eq_true_eq] at a5 ⊢
    exact ⟨aoo a5.1 z,a5.2⟩
   ·rw [if_neg c1] at a5 ⊢
    by_cases c2:kd=2
    ·rw [if_pos c2] at a5 ⊢
     simp only [anZ,decide_eq_true_eq] at a5 ⊢
     exact ⟨aoo a5.1 z,a5.2⟩
    ·rw [if_neg c2] at a5 ⊢
     by_cases c3:kd=13\/kd=21\/kd=26
     ·rw [if_pos c3,anZ] at a5 ⊢
      have A:=aoA (fa:=false) ⟨q.1.1,fun h=>by cases h⟩ I hn z
      exact ⟨A.1.right,B a5.2 z⟩
     ·rw [if_neg c3] at a5 ⊢
      simp only [anZ,decide_eq_true_eq] at a5 ⊢
      exact ⟨s3 a5.1,aoo a5.2 z⟩
end
section
variable {vb db kd:Int}
end
variable {S:Type} {k:Nat}

end Go.Proofs.YtgmmefmmnakbpaaGreatDoor
namespace Go.Proofs.YtgmmefmmnakbpaaGreatDoor
open Go PI
set_option maxRecDepth 20000
theorem aoS {V D:Int} {t:Tm} (h:bB V D t):D<=24:=by
 cases t
 unfold bB at h
 rw [aqp] at h
 simp only [Bool.true_and,anZ,Bool.not_eq_true',decide_eq_false_iff_not] at h
 omega
theorem an0 (V:Int):cQ V 0=V:=by unfold cQ;split<;>omega
variable {S:Type} {k:Nat}
def anW (t:Tm) (V D:Int):Int:=if V<0\/D<0\/D>24 then 2 else if am t>200 then 62 else if au t>20000 then 221 else if aqp true V D t then 0 else 100
theorem nK {t:Tm} (h:In k t) (hk:F3 k) {V D:Int} (A:V<9223372036854775808) (B:D<1000000) (I:Int->OS S):anX k t V D I=I (anW t V D):=by
 simp only [anX,ag hk.fu,ar,aY]
 unfold anW
 by_cases h1:V<0
 ·rw [if_pos h1,if_pos (.inl h1)]
 rw [if_neg h1]
 by_cases h2:D<0
 ·rw [if_pos h2,if_pos (.inr (.inl h2))]
 rw [if_neg h2]
 by_cases x:D>24
 ·rw [if_pos x,if_pos (.inr (.inr x))]
 have z:=h.dep
 rw [if_neg x,if_neg (by omega),ajZ h.1 h.2.1]
 by_cases j:am t>200
 ·rw [if_pos j,if_pos j];rfl
 rw [if_neg j,if_neg j]
 by_cases q:au t>20000
 ·rw [if_pos q,if_pos q];rfl
 rw [if_neg q,if_neg q,show (!((0:Int)==0))=false from rfl,n3,aC5 t h.1 _ h.2.1 ⟨by omega,by omega,by omega,by omega⟩]
 cases aqp true V D t<;>rfl
theorem aoN {t:Tm} {V D:Int} (h:anW t V D=0):0<=V/\0<=D/\bB V D t:=by
 unfold anW at h
 split at h
 ·cases h
 split at h
 ·cases h
 split at h
 ·cases h
 split at h
 ·exact ⟨by omega,by omega,by assumption⟩
 ·cases h
theorem BI {l:LT} {x:Except Int Tm} {t:Tm} (h:c6 l x= .ok t):alE l=0/\bw t=0/\x= .ok t:=by
 unfold c6 at h
 split at h
 case isFalse=>cases h
 rename_i h1
 unfold al_ at h
 obtain ⟨z,j,h⟩:=i8 h
 split at h
 case isFalse=>cases h
 rename_i q
 injection h with h;subst h
 exact ⟨h1,q,j⟩
theorem R3 {l:LT} {x:Except Int Tm} {e:Int} (q: ∀e,x= .error e->e≠0) (h:c6 l x= .error e):e≠0:=by
 unfold c6 at h
 split at h
 ·unfold al_ at h
  rcases be h with h|⟨t,_,h⟩
  ·exact q e h
  ·split at h
   ·cases h
   ·rename_i j;injection h with h;exact h▸j
 ·rename_i j;injection h with h;exact h▸j
theorem aET {line a:Tm} {phi r:LC} {en:Cl} {e:Int} (h:aso line phi a en r= .error e):e≠0:=by
 unfold aso at h
 split at h
 ·split at h
  ·unfold al_ at h
   rcases be h with h|⟨t,_,h⟩
   ·have:=aES h;omega
   ·split at h
    ·cases h
    ·rename_i j;injection h with h;exact h▸j
  ·injection h with h;omega
 ·rename_i j;injection h with h;exact h▸j
def ut {α:Type} (x:Except Int α):Int:=match x with
 | .ok _=>0
 | .error e=>e
theorem NG {t:Tm} {n:Int} (hn:n=(t.kids.length:Int)-1):List.drop (arM 1) (List.take (arM n) t.kids)=ac3 t:=by
 have:arM n=t.kids.length-1:=by omega
 rw [this];rfl
theorem aJ9 (t:Tm):(ac3 t).length<=t.kids.length:=by unfold ac3;rw [List.length_drop,List.length_take];omega
theorem ayh {t x:Tm} (h:x∈ac3 t):x∈t.kids:=List.mem_of_mem_take (List.mem_of_mem_drop h)
theorem By (hk:F3 k) {t p a:Tm} {c n:Int} (hn:n=(t.kids.length:Int)-1) (h1:2<=t.kids.length) (hl:t.kids.length<1073741000) (I:Int×Int×BA×LT×Int->OS S):
  nc k p 0 a t n c I=I (t.kind,0,alH,p::ac3 t++[a],c):=by
 have h:4294968296<=k:=hk
 have j:=aJ9 t
 have:=aeM I hk (c0:=t) (a:=a) (e:=c) (NG hn) (by omega) (ac3 t) [] [p] k rfl (by omega) (by simp;omega)
 simp only [nc,BP,ar]
 rw [fN _ (by omega)]
 exact this
theorem Rm (hk:F3 k) {t p a:Tm} {c n:Int} (ft:Fm t) (hn:n=(t.kids.length:Int)-1) (h1:2<=t.kids.length) (I:Int×Int×BA×LT×Int->OS S):
  ∃l,nc k p 1 a t n c I=I (t.kind,0,alH,p::l++[a],ut (stE c (alM (ac3 t))))/\ ∀l',stE c (alM (ac3 t))= .ok l'->l=l':=by
 have j:4294968296<=k:=hk
 have q:=aJ9 t
 have z:=ft.ok.no.2.2.2.2.2.1
 have A:t.kids.length<=20000:=by
  have h:=ft.siz
  have A:=rM t
  have: ∀l:LT,l.length<=ay l:=by
   intro l
   induction l with
   |nil=>simp
   |cons x l F=>rw [ay,aq5];have:=mB x;omega
  have:=this t.kids
  omega
 obtain ⟨l,h2,B⟩:=aeN I hk (c0:=t) (a:=a) (NG hn) (by omega) (fun y E=>ft.kid (ayh E)) (ac3 t) [] [p] k c rfl (by omega) (by simp;omega)
 refine ⟨l, ?_,B⟩
 simp only [nc,BP,ar]
 rw [fN _ (by omega)]
 refine h2.trans ?_
 unfold ut
 cases stE c (alM (ac3 t))<;>rfl
theorem aBz (hk:F3 k) (I:Tm×Bool×Int->OS S) {r9 r10:Tm×Int} {r13:Int×Int×BA×LT×Int} {t x:Tm} (ft:Fm t) (h1:2<=t.kids.length) (B: ∀b∈x.sys,b.kids=[AK b]) (E:x.sys.length<=20000) {c:Int} (hc:c≠0):
  ∀ (r p acc:LB) (m:Nat),x.sys=p++r->r.length<m->acc.length+r.length<=20000->fX k I t r9 r10 r13 t x m c acc (p.length:Int)=I (noT,false,c):=by
 have F:4294968296<=k:=hk
 have J:su .i64 ((t.kids.length:Int)-1)=(t.kids.length:Int)-1:=aaf (by omega) (by have:=ft.ok.no.2.2.2.2.2.1;omega)
 intro r
 induction r with
 |nil=>
  intro p acc m h A ha
  obtain ⟨m,rfl,q⟩:=amr A
  simp only [fX,oR,akb h,n3,ag hk.fu,ar]
  rw [Rx hk (fun h=>absurd h hc) (fun e h=>R3 (fun e h=>by have:=o_ h;omega) h),n9 hc,Ry hk (gQ hk)]
  exact JF hc I
 |cons b r L=>
  intro p acc m h A ha
  obtain ⟨m,rfl,q⟩:=amr A
  obtain ⟨M,O,T,W⟩:=apy h (by omega)
  have Y:af b.kids 0=some (AK b):=ED (n:=0) rfl (by rw [B b (by rw [h];simp)];rfl)
  rw [aq5] at ha
  simp only [fX,oR,M,ae,O,sf,Y,ag hk.fu,ar,J,T]
  obtain ⟨l,h2,_⟩:=Rm (p:=r9.1) (a:=AK b) (c:=c) hk ft rfl h1 fun j=>aq3 k b.face [(Tm.mk j.1 j.2.1 j.2.2.1 [] j.2.2.2.1 [])] fun z=>asP (aw 1099511627776 acc.length [z].length) fun ad=>fX k I t r9 r10 r13 t x m j.2.2.2.2 (acc++[z]) (((p++[b]).length:Nat):Int)
  refine h2.trans ?_
  rw [lb hc]
  simp only [aq3,ut]
  rw [J5 (by simp;omega)]
  exact L (p++[b]) _ m W q (by rw [List.length_append,List.length_singleton];omega)
theorem I_: ∀ {l l':LT},(∀y∈l,Fm y)->alM l= .ok l'->(∀y∈l',Fm y)/\l'.length=l.length:=by
 intro l
 induction l with
 |nil=>intro l' _ h;rw [alM] at h;injection h with h;subst h;exact ⟨fun y j=>(by cases j),rfl⟩
 |cons x l q=>
  intro l' hf h
  rw [alM] at h
  obtain ⟨y,h1,h⟩:=i8 h
  obtain ⟨m,h2,h⟩:=i8 h
  injection h with h;subst h
  obtain ⟨i1,i2⟩:=q (fun y j=>hf y (by simp [j])) h2
  have fy:=mD (by omega) (hf x (by simp)) h1
  refine ⟨fun z hz=> ?_,by simp [i2]⟩
  rcases arH.1 hz with rfl|hz
  ·exact fy
  ·exact i1 z hz
theorem aka {n:Nat}: ∀ {l:LT},(∀x∈l,au x<=n)->ay l<=l.length*n:=by
 intro l
 induction l with
 |nil=>intro _;rw [ay];simp
 |cons x l j=>
  intro h
  rw [ay,aq5,Nat.succ_mul]
  have:=j fun y q=>h y (by simp [q])
  have:=h x (by simp)
  omega
theorem aag {n:Nat}: ∀ {l:LT},(∀x∈l,am x<=n)->aH l<=n:=by
 intro l
 induction l with
 |nil=>intro _;rw [aH];omega
 |cons x l j=>intro h;rw [aH];have:=j fun y q=>h y (by simp [q]);have:=h x (by simp);omega
theorem pO {kd:Int} (j:kd=22\/kd=27) {p a:Tm} {l:LT} (fp:Fm p) (fa:Fm a) (fl: ∀y∈l,Fm y) (hl:l.length<=3):Sm 100001 (ig kd p l a)/\am (ig kd p l a)<=201:=by
 have h: ∀x∈p::l++[a],Fm x:=fun x hx=>by
  rcases atc.1 hx with hx|hx
  ·rcases arH.1 hx with rfl|hx
   ·exact fp
   ·exact fl x hx
  ·rw [List.mem_singleton] at hx;subst hx;exact fa
 have hlen:(p::l++[a]).length<=5:=by simp;omega
 have q:ay (p::l++[a])<=100000:=aru (aka fun x hx=>(h x hx).siz) (aru (arA _ hlen) (by omega))
 have hd:aH (p::l++[a])<=200:=aag fun x hx=>(h x hx).dep
 refine ⟨(Hn (kd:=kd) (by omega) (r:=[]) ⟨(fun c hc=>by cases hc),by simp⟩ (ks:=p::l++[a]) (sys:=[]) (n:=100000) (m:=0) (fun x hx=>⟨(h x hx).ok,by have:=(h x hx).dep;omega⟩) (by omega) q (by rw [ba];trivial) (by simp) (by rw [aO];omega) (by rw [aI];omega)).mono (by omega), ?_⟩
 rw [am,aO];omega
theorem Jb (hk:F3 k) {n:Nat} (hn:n<=50000000) {l:LB} (h:Bs' n l) (hl:l.length<=20000) (hd:aO l<=299):In k (J4 l):=by
 have q:aI l<=1000000000000:=aru h.siz (aru (Nat.mul_le_mul hl hn) (by omega))
 have hs:au noT<=1:=by unfold noT;rw [au,ay,aI];omega
 have z:am noT<=1:=by unfold noT;rw [am,aH,aO];omega
 refine (show Sm (10+1000000000000+1) (J4 l) from ?_).isIn hk (by omega)
 unfold J4
 exact Hn (kd:=15) (by omega) (r:=[]) ⟨(fun c hc=>by cases hc),by simp⟩ (fun x j=>by
  simp at j
  subst j
  refine ⟨?_, ?_⟩
  ·rw [OkT,aZ,ba];exact ⟨⟨by unfold aG;omega,by unfold aG;omega,by decide,(fun c hc=>by cases hc),by simp,by simp,by simp⟩,trivial,trivial⟩
  ·rw [am,aH,aO];omega) (by simp) (by rw [ay,ay,ay,au,ay,aI];simp) h.ok (by omega) hd q
theorem Jc (hk:F3 k) {x:Tm} (fx:Fm x):In k (J4 x.sys):=by
 obtain ⟨q,z,A,B,E,F,I⟩:=fx.ok.no
 have hs:ba x.sys:=by have:=fx.ok;cases x;rw [OkT] at this;exact this.2.2
 have hd:aO x.sys<=299:=by have:=fx.dep;cases x;rw [am] at this;show aO _<=299;simp only [Tm.sys];omega
 have j:aI x.sys<=20000:=by have:=fx.siz;cases x;rw [au] at this;show aI _<=20000;simp only [Tm.sys];omega
 unfold J4
 exact (Hn (kd:=15) (by omega) (r:=[]) ⟨(fun c hc=>by cases hc),by simp⟩ (n:=10) (fun y h=>by
  simp at h
  subst h
  refine ⟨?_, ?_⟩
  ·rw [OkT,aZ,ba];exact ⟨⟨by unfold aG;omega,by unfold aG;omega,by decide,(fun c hc=>by cases hc),by simp,by simp,by simp⟩,trivial,trivial⟩
  ·rw [am,aH,aO];omega) (by simp) (by rw [ay,ay,ay,au,ay,aI];simp) hs (by omega) hd j).isIn hk (by omega)
theorem BJ {l:LT} {x:Except Int Tm} {e:Int} (j: ∀e,x= .error e->0<e/\e<=1000) (h:c6 l x= .error e):e≠0:=R3 (fun e h=>by have:=j e h;omega) h
theorem wg {a b c:Tm} (ha:OkT a) (hb:OkT b) (hc:OkT c) (h:alE [a,b,c]=0):Fm a/\Fm b/\Fm c:=by
 have:=avl (l:=[a,b,c]) (fun x j=>by
  simp at j
  rcases j with rfl|rfl|rfl
  ·exact ha
  ·exact hb
  ·exact hc) h
 exact ⟨this a (by simp),this b (by simp),this c (by simp)⟩
theorem aeY (hk:F3 k) (I:Tm×Bool×Int->OS S) {r9 r10:Tm×Int} {r13:Int×Int×BA×LT×Int} {t x:Tm} (ft:Fm t) (F:t.kind=22\/t.kind=27) (h1:2<=t.kids.length/\t.kids.length<=5) (fb:Fm r9.1) (hx: ∀b∈x.sys,b.kids=[AK b]/\Fm (AK b)/\RX true b.face) (J:x.sys.length<=20000)
  (hl:In k r10.1) (ha:In k (.mk r13.1 r13.2.1 r13.2.2.1 [] r13.2.2.2.1 [])):
  ∀ (r p acc:LB) (m:Nat),x.sys=p++r->r.length<m->Bs' 110000 acc->aO acc<=299->acc.length+r.length<=20000->
   fX k I t r9 r10 r13 t x m 0 acc (p.length:Int)=I (ar_ (bE (ama t.kind r9.1 (ac3 t) r) fun l=>c6 [r10.1,.mk r13.1 r13.2.1 r13.2.2.1 [] r13.2.2.2.1 [],J4 (acc++l)] (dF r10.1 (.mk r13.1 r13.2.1 r13.2.2.1 [] r13.2.2.2.1 []) (acc++l)))):=by
 have ao:4294968296<=k:=hk
 have hw:su .i64 ((t.kids.length:Int)-1)=(t.kids.length:Int)-1:=aaf (by omega) (by omega)
 intro r
 induction r with
 |nil=>
  intro p acc m h L hb hd j
  obtain ⟨m,rfl,A⟩:=amr L
  have z:=Jb hk (by omega) hb (by simpa using j) hd
  simp only [fX,oR,akb h,n3,ag hk.fu,ar]
  rw [Rx hk (fun _=>⟨hl,ha,z⟩) (fun e h=>BJ (fun e h=>o_ h) h),kR,ama,aD,arE]
  have M:=akc hk (l:=[r10.1,.mk r13.1 r13.2.1 r13.2.2.1 [] r13.2.2.2.1 [],J4 acc]) (x:=dF r10.1 (.mk r13.1 r13.2.1 r13.2.2.1 [] r13.2.2.2.1 []) acc) fun O y T=>by
   obtain ⟨f1,f2,f3⟩:=wg hl.1 ha.1 z.1 O
   exact (yu hk f1 f2 (iQ f3) T).1
  rw [Ry hk M]
  cases B:c6 [r10.1,.mk r13.1 r13.2.1 r13.2.2.1 [] r13.2.2.2.1 [],J4 acc] (dF r10.1 (.mk r13.1 r13.2.1 r13.2.2.1 [] r13.2.2.2.1 []) acc) with
  |error e=>exact JF (BJ (fun e h=>o_ h) B) I
  |ok y=>exact aae I
 |cons b r ih=>
  intro p acc m h L hb hd j
  obtain ⟨m,rfl,A⟩:=amr L
  obtain ⟨e1,e2,e3,e4⟩:=apy h (by omega)
  obtain ⟨W,Y,ad⟩:=hx b (by rw [h];simp)
  have hg:af b.kids 0=some (AK b):=ED (n:=0) rfl (by rw [W];rfl)
  rw [aq5] at j
  simp only [fX,oR,e1,ae,e2,sf,hg,ag hk.fu,ar,hw,e3]
  obtain ⟨l,h2,h3⟩:=Rm (p:=r9.1) (a:=AK b) (c:=0) hk ft rfl h1.1 fun q=>aq3 k b.face [(Tm.mk q.1 q.2.1 q.2.2.1 [] q.2.2.2.1 [])] fun E=>asP (aw 1099511627776 acc.length [E].length) fun ax=>fX k I t r9 r10 r13 t x m q.2.2.2.2 (acc++[E]) (((p++[b]).length:Nat):Int)
  refine h2.trans ?_
  rw [oH] at h3 ⊢
  simp only [aq3]
  rw [J5 (by simp;omega),ama]
  cases B:alM (ac3 t) with
  |error e=>
   have he:=Ue B
   rw [lk,lk,show ut (.error e:Except Int (LT))=e from rfl]
   exact aBz hk I ft h1.1 (fun b hb=>(hx b hb).1) J (by omega) r (p++[b]) _ m e4 A (by rw [List.length_append,List.length_singleton];omega)
  |ok ms=>
   have hle:=h3 ms B
   subst hle
   obtain ⟨fm,az⟩:=I_ (fun y T=>ft.kid (ayh T)) B
   have a6:(ac3 t).length<=3:=by unfold ac3;rw [List.length_drop,List.length_take];omega
   obtain ⟨q1,q2⟩:=pO F fb Y fm (by omega)
   rw [aD,show ut (.ok l:Except Int (LT))=0 from rfl]
   refine (ih (p++[b]) (acc++[⟨b.face,[ig t.kind r9.1 l (AK b)]⟩]) m e4 A (Ju hb (G9 ad) (q1.mono (by omega))) (by rw [zF,aO,eB,aH,aH,aO];omega) (by rw [List.length_append,List.length_singleton];omega)).trans ?_
   congr 2
   cases ama t.kind r9.1 (ac3 t) r with
   |error e=>rfl
   |ok l'=>rw [aD,aD,aD,List.append_assoc];rfl
theorem KP {l:LT} (h:1<=l.length):af l 0=some (l.getD 0 noT):=by
 cases l with
 |nil=>simp at h
 |cons a l=>rfl
theorem nw {t:Tm} (h:2<=t.kids.length):af t.kids ((t.kids.length:Int)-1)=some (adR t)/\adR t∈t.kids:=by
 have e:((t.kids.length:Int)-1)=((t.kids.length-1:Nat):Int):=by omega
 have hl:t.kids.length-1<t.kids.length:=by omega
 have h2:t.kids[t.kids.length-1]? =some (t.kids[t.kids.length-1]):=arN hl
 have j:adR t=t.kids[t.kids.length-1]:=by unfold adR;rw [List.getD_eq_getElem?_getD,h2];rfl
 rw [e,pU,j]
 exact ⟨h2,List.getElem_mem hl⟩
theorem aeX (x:F4 k) {t:Tm} (ft:Fm t) (B:t.kind=22\/t.kind=27) (E:(adR t).kind=15) (I:Tm×Bool×Int->OS S):l6 k I t k=I (ar_ (amf t.kind (t.kids.getD 0 noT) (ac3 t) (adR t))):=by
 have hk:=x.f3
 have ao:4294968296<=k:=hk
 have hlen:2<=t.kids.length/\t.kids.length<=5:=by
  have:=ft.nk
  rcases B with h|h<;>rw [h] at this
  ·have e:ct 22=4:=rfl
   omega
  ·have e:ct 27=5:=rfl
   omega
 obtain ⟨gl,ml⟩:=nw hlen.1
 have fx:=ft.kid ml
 obtain ⟨u,a,z⟩:=I8 (E5 fx E (n:=2) rfl)
 obtain ⟨J,L⟩:=KQ z
 obtain ⟨M,O⟩:=EC z
 have fu:Fm u:=fx.kid (by rw [z];simp)
 have fa:Fm a:=fx.kid (by rw [z];simp)
 obtain ⟨sy,A⟩:=fx.sy E
 have g0:=KP (show 1<=t.kids.length by omega)
 have fp:Fm (t.kids.getD 0 noT):=ft.kid (by
  match h:t.kids,hlen.1 with
  |a::l,_=>simp)
 have hw:su .i64 ((t.kids.length:Int)-1)=(t.kids.length:Int)-1:=aaf (by omega) (by omega)
 have F:=Jc hk fx
 have hC: ∀ {c:Int} (hc:c≠0) (r9 r10:Tm×Int) (r13:Int×Int×BA×LT×Int),fX k I t r9 r10 r13 t (adR t) k c [] 0=I (noT,false,c):=fun hc r9 r10 r13=>aBz hk I ft hlen.1 (fun b hb=>(sy b hb).1) A hc (adR t).sys [] [] k rfl (by omega) (by simpa using A)
 obtain ⟨q,hq⟩: ∃q,k=q+1:=⟨k-1,by omega⟩
 have main: ∀j,j=q+1->l6 k I t j=I (ar_ (amf t.kind (t.kids.getD 0 noT) (ac3 t) (adR t))):=by
  rintro j rfl
  simp only [l6,w_,ag hk.fu,ar,hw]
  rw [vU t ft.1 _ (ft.isIn hk).2.1]
  simp only [gl,sf,J,L,g0]
  rw [ajm hk (fun _=>⟨fu.isIn hk,fa.isIn hk,F⟩) (fun e h=>BJ (fun e h=>uw h) h),kR]
  unfold amf
  rw [M,O]
  cases hf:c6 [u,a,J4 (adR t).sys] (amg u a (adR t).sys) with
  |error e=>
   have he:=BJ (fun e h=>uw h) hf
   rw [show (tE (.error e)).2=e from rfl,Rv hk (fun h=>absurd h he),n9 he]
   rw [Hf x (fun h=>absurd h he),n9 he,By hk rfl hlen.1 (by omega)]
   exact hC he _ _ _
  |ok f=>
   obtain ⟨so,ff,T⟩:=BI hf
   have W:Fm f:=⟨(ux hk fu fa (iQ (wg fu.ok fa.ok F.1 so).2.2) T).1.1,ff⟩
   rw [show (tE (.ok f)).2=0 from rfl,show (tE (.ok f)).1=f from rfl,Rv hk (fun _=>fp),kR,aD]
   cases hb:J6 0 1 (t.kids.getD 0 noT) with
   |error e=>
    have he:e≠0:=by have:=al3 hb;omega
    rw [show (tE (.error e)).2=e from rfl,Hf x (fun h=>absurd h he),n9 he,By hk rfl hlen.1 (by omega)]
    exact hC he _ _ _
   |ok b=>
    have fb:=mD (by omega) fp hb
    have Y:ri 0 b f=ams 0 b f:=by unfold ri sh;rw [if_pos fb.2,if_pos W.2]
    rw [show (tE (.ok b)).2=0 from rfl,show (tE (.ok b)).1=b from rfl,Hf x (fun _=>⟨fb.isIn hk,W.isIn hk⟩),kR,aD,Y]
    cases hp:ams 0 b f with
    |error e=>
     have he:e≠0:=by have:=AL hp;omega
     rw [show (tE (.error e)).2=e from rfl,By hk rfl hlen.1 (by omega)]
     exact hC he _ _ _
    |ok line=>
     have fl:=ayn (by omega) fb W hp
     rw [show (tE (.ok line)).2=0 from rfl,By hk rfl hlen.1 (by omega),aD]
     have fm: ∀y∈ac3 t,Fm y:=fun y hy=>ft.kid (ayh hy)
     have ad:(ac3 t).length<=3:=by unfold ac3;rw [List.length_drop,List.length_take];omega
     obtain ⟨q1,q2⟩:=pO B fp fa fm ad
     exact aeY hk I (r9:=(b,0)) (r10:=(line,0)) (r13:=(t.kind,0,alH,t.kids.getD 0 noT::ac3 t++[a],0)) ft B hlen fb sy A (fl.isIn hk) (q1.isIn hk (by omega)) (adR t).sys [] [] k rfl (by omega) (Dp _) (by rw [aO];omega) (by simpa using A)
 exact main k hq
theorem ajh (A:F4 k) {t:Tm} (B:In k t) (I:Tm×Bool×Int->OS S):tL k t I=I (pP t):=by
 have hk:=A.f3
 simp only [tL,HU,ag hk.fu,ar,amv B.1 B.2.1 B.dep]
 unfold pP
 by_cases E:bw t=0
 case neg=>rw [dj E,aqD,ae,if_pos E];rfl
 rw [E,show (!((0:Int)==0))=false from rfl,n3,if_neg (by simp)]
 have ft:Fm t:=⟨B.1,E⟩
 have hlen:(t.kind=22\/t.kind=27)->2<=t.kids.length:=fun h=>by
  have:=ft.nk
  rcases h with h|h<;>rw [h] at this
  ·have e:ct 22=4:=rfl
   omega
  ·have e:ct 27=5:=rfl
   omega
 have F:su .i64 ((t.kids.length:Int)-1)=(t.kids.length:Int)-1:=aaf (by omega) (by have:=ft.ok.no.2.2.2.2.2.1;omega)
 have main:(t.kind=22\/t.kind=27)-> ∀g:Tm->OS S,g (adR t)=ab (!((adR t).kind==15)) (I (noT,false,0)) (l6 k I t k)->g (adR t)=I (if (t.kind=22\/t.kind=27)/\(adR t).kind=15 then ar_ (amf t.kind (t.kids.getD 0 noT) (ac3 t) (adR t)) else (noT,false,0)):=fun h g J=>by
  rw [J]
  by_cases j:(adR t).kind=15
  case neg=>rw [beq_false_of_ne j,aqD,ae,if_neg (fun h=>j h.2)]
  rw [if_pos ⟨h,j⟩,j,show (!((15:Int)==15))=false from rfl,n3]
  exact aeX A ft h j I
 by_cases q:t.kind=22
 ·rw [show (!(t.kind==22))=false from by simpa using q,n3,F,(nw (hlen (.inl q))).1,sf]
  exact main (.inl q) (fun x=>ab (!(x.kind==15)) (I (noT,false,0)) (l6 k I t k)) rfl
 rw [show (!(t.kind==22))=true from by simpa using q,ae]
 by_cases z:t.kind=27
 case neg=>rw [show (!(t.kind==27))=true from by simpa using z,ae,if_neg (fun h=>by omega)];rfl
 rw [show (!(t.kind==27))=false from by simpa using z,n3,F,(nw (hlen (.inr z))).1,sf]
 exact main (.inr z) (fun x=>ab (!(x.kind==15)) (I (noT,false,0)) (l6 k I t k)) rfl
theorem BH {l:LT} {x:Except Int Tm} {e:Int} (q: ∀e,x= .error e->0<e/\e<=1000) (h:c6 l x= .error e):0<e/\e<=1000:=by
 unfold c6 at h
 have hs:=aki l
 split at h
 ·unfold al_ at h
  rcases be h with h|⟨t,_,h⟩
  ·exact q e h
  ·have:=Et t
   split at h
   ·cases h
   ·rename_i j;injection h with h;subst h;omega
 ·rename_i j;injection h with h;subst h;omega
def k1 (b:Br Tm):Tm:=b.kids.getD 1 noT
theorem Fm.gl {t:Tm} (h:Fm t) (hk:t.kind=16):(∀b∈t.sys,b.kids=[AK b,k1 b]/\Fm (AK b)/\Fm (k1 b)/\RX true b.face)/\t.sys.length<=20000/\ ∃a,t.kids=[a]/\Fm a:=by
 have ho:=h.own
 have j: ∀b∈t.sys,b.kids.length=2:=fun b hb=>by
  obtain ⟨kd,n,z,r,q,sys⟩:=t
  have hk:kd=16:=hk
  subst hk
  have ho:(_&&(sys.all (bX 16 24)&&_))=true:=ho
  simp only [anZ] at ho
  have:=ars.1 ho.2.1 b hb
  grind [bX,cz]
 refine ⟨fun b hb=> ?_, ?_, ?_⟩
 ·have hl:=j b hb
  obtain ⟨f,q⟩:=b
  match q,hl with
  |[a,c],_=>exact ⟨rfl,h.brk hb (by simp [AK]),h.brk hb (by simp [k1]),h.face hb⟩
 ·have h1:=h.siz
  have h2:=Hl t
  have: ∀ {l:LB},(∀b∈l,b.kids.length=2)->l.length<=aI l:=by
   intro l
   induction l with
   |nil=>simp
   |cons b l x=>
    intro hl
    have:=x fun b hb=>hl b (by simp [hb])
    have hb:=hl b (by simp)
    obtain ⟨f,q⟩:=b
    match q,hb with
    |a::q,_=>grind [aI,fG,ay,mB]
  grind
 ·have hn:=h.nk
  rw [hk] at hn
  have e:ct 16=1:=rfl
  obtain ⟨a,ha⟩:=jH (t:=t) (by omega)
  exact ⟨a,ha,h.kid (by grind)⟩
def eh (g:Tm):LB:=g.sys.map fun x=>⟨x.face,[k1 x]⟩
abbrev arZ (a:Tm) (es:LB):Tm:= .mk 18 0 alH [] [a] es
abbrev arD:Tm:= .mk 3 0 alH [] [] []
abbrev awc (u:Tm) (ks:LT):Tm:= .mk u.kind u.n u.name u.r ks u.sys
def in1 (es:LB):LB->Except Int (LB)
 |[]=> .ok []
 |x::l=>bE (J6 0 1 (arZ arD es)) fun u=>bE (in1 es l) fun h=> .ok (⟨x.face,[awc u [AK x]]⟩::h)
def in2 (b:Tm) (sys:LB):LB->Except Int (LB)
 |[]=> .ok []
 |x::l=>bE (J6 0 1 (k1 x)) fun f=>bE (c6 [AK x,b,J4 sys] (amg (AK x) b sys)) fun w=>bE (in2 b sys l) fun h=> .ok (⟨x.face,[dS 6 [dS 9 [f],w]]⟩::h)
def in3 (b:Tm) (sys:LB) (l:LB):LB:=l.map fun x=>⟨x.face,[.mk 15 0 alH [] [AK x,b] sys]⟩
def awP (g b:Tm) (sys h j:LB):Tm:= .mk 17 0 alH [] [.mk 15 0 alH [] [g.kids.getD 0 noT,arZ b (eh g)] (h++j)] (in3 b sys g.sys)
def awQ (t:Tm):Except Int Tm:=
 bE (in1 (eh (t.kids.getD 0 noT)) t.sys) fun h=>bE (in2 (t.kids.getD 1 noT) t.sys (t.kids.getD 0 noT).sys) fun j=> .ok (awP (t.kids.getD 0 noT) (t.kids.getD 1 noT) t.sys h j)
def azI (t:Tm):Tm×Bool×Int:=
 if bw t≠0 then (noT,false,bw t) else
 if t.kind=15/\(t.kids.getD 0 noT).kind=16 then ar_ (awQ t) else (noT,false,0)
theorem aGa {es:LB}: ∀ {l:LB} {e:Int},in1 es l= .error e->0<e/\e<=1000:=by
 intro l
 induction l<;>grind [in1,be,al3]
theorem aGc {b:Tm} {sys:LB}: ∀ {l:LB} {e:Int},in2 b sys l= .error e->0<e/\e<=1000:=by
 intro l
 induction l<;>grind [in2,be,al3,BH,uw]
def BrP (n:Nat) (l:LB):Prop:= ∀x∈l,∃t,x.kids=[t]/\Sm n t/\am t<=299/\aq x.face/\x.face.length<1073741824
theorem atK (n:Nat):BrP n []:=fun x h=>by cases h
theorem atT {n:Nat} {l:LB} {f:LC} {t:Tm} (hf:aq f/\f.length<1073741824) (j:Sm n t) (hd:am t<=299) (h:BrP n l):BrP n (⟨f,[t]⟩::l):=fun x hx=>by
 rcases arH.1 hx with rfl|hx
 ·grind
 ·exact h x hx
theorem au0 {n:Nat} {a b:LB} (ha:BrP n a) (hb:BrP n b):BrP n (a++b):=fun x h=>(atc.1 h).elim (ha x) (hb x)
def FN (x:Tm):Prop:=Fm x\/x=noT
theorem FN.sm {x:Tm} (h:FN x):Sm 20000 x/\am x<=200:=by
 rcases h with h|rfl
 ·exact ⟨h.sm,h.dep⟩
 grind [aoi,noT,am,aH,aO]
theorem arW {c:Int} {x:Except Int Tm} (h: ∀t,x= .ok t->Fm t):FN (mM c x).1:=by
 unfold mM
 split
 ·cases x with
  |error e=>exact .inr rfl
  |ok t=>exact .inl (h t rfl)
 ·exact .inr rfl
theorem azZ {u a:Tm} (hu:FN u) (ha:Fm a):Sm 50000 (awc u [a])/\am (awc u [a])<=299:=by
 obtain ⟨h1,h2⟩:=hu.sm
 obtain ⟨h,j,q,x,z,B,A⟩:=h1.ok.no
 have hs:ba u.sys:=by have:=h1.ok;cases u;rw [OkT] at this;exact this.2.2
 have hd:aO u.sys+1<=am u:=by cases u<;>grind [am,Tm.sys]
 have E:aI u.sys+1<=au u:=by cases u<;>grind [au,Tm.sys]
 have:=h1.siz;have:=ha.siz;have:=ha.dep
 refine ⟨⟨?_, ?_, ?_⟩, ?_⟩
 ·rw [OkT,aZ,aZ];exact ⟨⟨h,j,q,x,z,by simp,A⟩,⟨ha.ok,trivial⟩,hs⟩
 all_goals grind [au,ay,am,aH]
theorem at6 {kd:Int} (q:0<=kd/\kd<=28) {n:Nat} {ks:LT} (h: ∀x∈ks,Sm n x/\am x<=290) (hl:ks.length<=4):Sm (4*n+1) (dS kd ks)/\am (dS kd ks)<=291:=by
 have hd:aH ks<=290:=aag fun x j=>(h x j).2
 have z:ay ks<=4*n:=aru (aka fun x j=>(h x j).1.siz) (arA _ hl)
 unfold dS
 refine ⟨(Hn (kd:=kd) q (r:=[]) ⟨(fun c hc=>by cases hc),by simp⟩ (ks:=ks) (sys:=[]) (n:=4*n) (m:=0) (fun x j=>⟨(h x j).1.ok,by grind⟩) (by omega) z (by rw [ba];trivial) (by simp) (by rw [aO];omega) (by rw [aI];omega)).mono (by omega), ?_⟩
 rw [am,aO];omega
theorem avs {n:Nat} {l:LB} (h:BrP n l):Bs' n l/\aO l<=299:=by
 induction l with
 |nil=>grind [Dp,aO]
 |cons x l j=>
  obtain ⟨i1,i2⟩:=j fun x q=>h x (by simp [q])
  obtain ⟨t,e,h1,h2,z,A⟩:=h x (by simp)
  obtain ⟨f,B⟩:=x
  have e:B=[t]:=e
  subst e
  refine ⟨?_, ?_⟩
  ·refine ⟨?_, ?_, ?_⟩
   ·rw [ba,fc,aZ,aZ];exact ⟨⟨⟨z,A,by simp⟩,h1.ok,trivial⟩,i1.ok⟩
   ·rw [aI,fG,ay,ay,aq5,Nat.succ_mul];have:=i1.siz;have:=h1.siz;omega
   grind [aO,eB,aH]
  grind [aO,eB,aH]
theorem aze {g:Tm} (E:Fm g) (F:g.kind=16):ba (eh g)/\aO (eh g)<=aO g.sys/\aI (eh g)<=aI g.sys/\(eh g).length=g.sys.length/\ck false (-1) 24 18 (eh g)=true/\(eh g).all (bX 18 24)=true:=by
 obtain ⟨q,hl,_⟩:=E.gl F
 unfold eh
 generalize g.sys=l at q
 clear hl
 induction l with
 |nil=>grind [ba,ck]
 |cons x l I=>
  obtain ⟨i1,i2,i3,i4,i5,i6⟩:=I fun b hb=>q b (by simp [hb])
  obtain ⟨A,q2,B,h⟩:=q x (by simp)
  obtain ⟨f,z⟩:=x
  have A:z=[AK ⟨f,z⟩,k1 ⟨f,z⟩]:=A
  have r1:=G9 h
  rw [List.map_cons]
  refine ⟨?_, ?_, ?_,by simp, ?_, ?_⟩
  ·rw [ba,fc,aZ,aZ];exact ⟨⟨⟨r1.1,r1.2,by simp⟩,B.ok,trivial⟩,i1⟩
  ·grind [aO,eB,aH]
  ·grind [aI,fG,ay]
  ·rw [ck,jT,ca,ca,Bool.and_true,anZ]
   exact ⟨(eU B.2).2.2,i5⟩
  ·rw [List.all_cons,anZ]
   refine ⟨?_,i6⟩
   unfold bX
   rw [anZ,anZ]
   refine ⟨rfl,RFa.right ⟨h.1,h.2 rfl⟩, ?_⟩
   rw [an1 h.1]
   exact fun c hc j hj=>by
    have:j<24:=hj.elim (aoM (h.1.rc hc)) (aoL (h.1.rc hc))
    omega
theorem uni_ok:OkT arD/\au arD=1/\am arD=1:=by
 refine ⟨?_, ?_, ?_⟩
 ·rw [OkT,aZ,ba];exact ⟨⟨by unfold aG;omega,by unfold aG;omega,by decide,(fun c hc=>by cases hc),by simp,by simp,by simp⟩,trivial,trivial⟩
 all_goals rfl
theorem aJc {g a:Tm} (h:Fm g) (j:g.kind=16) (fa:Fm a) (F:au a+aI g.sys+1<=20000) (hd:am a+1<=200):Fm (arZ a (eh g)):=by
 obtain ⟨q,I,J,L,x,M⟩:=aze h j
 obtain ⟨_,hl,_⟩:=h.gl j
 have z:aO g.sys+1<=am g:=by cases g<;>grind [am,Tm.sys]
 have A:=h.dep
 have ho:OkT (arZ a (eh g)):=by
  rw [OkT,aZ,aZ]
  exact ⟨⟨by unfold aG;omega,by unfold aG;omega,by decide,(fun c hc=>by cases hc),by simp,by simp,by omega⟩,⟨fa.ok,trivial⟩,q⟩
 refine ⟨ho,pS ?_ ?_ ?_⟩
 ·grind [am,aH]
 ·grind [au,ay]
 ·rw [aqp,x,bO,bO]
  have B:arJ 18 ((0:Nat):Int)=0:=rfl
  have E:bJ 18 ((0:Nat):Int)=0:=rfl
  rw [B,E,an0,Int.add_zero,(eU fa.2).2.2]
  have:cL (-1) 24 (arZ a (eh g))=true:=by
   show (true&&((eh g).all (bX 18 24)&&true))=true
   grind
  grind
theorem aJd:Fm arD:=⟨uni_ok.1,by kernel_rfl⟩
theorem azf {g:Tm} (h:Fm g) (j:g.kind=16):Fm (arZ arD (eh g)):=by
 obtain ⟨_,_,a,ha,fa⟩:=h.gl j
 have x:=h.siz
 have h2:au g=1+(au a+0)+aI g.sys:=by
  obtain ⟨kd,n,z,r,q,sys⟩:=g
  have ha:q=[a]:=ha
  subst ha
  rfl
 grind [mB,aJc,aJd,uni_ok]
section
variable {g:Tm}
theorem aIg (hk:F3 k) (z:Fm g) (A:g.kind=16) {x:Br Tm} (B:x.kids=[AK x]) (c:Int) (I:Br Tm×Int->OS S):
  axz k x (eh g) c I=I (⟨x.face,[awc (mM c (J6 0 1 (arZ arD (eh g)))).1 [AK x]]⟩,(mM c (J6 0 1 (arZ arD (eh g)))).2):=by
 have q:=azf z A
 have h:af x.kids 0=some (AK x):=ED (n:=0) rfl (by grind)
 have j:wA 0 1 (arZ arD (eh g))=J6 0 1 (arZ arD (eh g)):=if_pos q.2
 simp only [axz,ag hk.fu,ar,zc,aun,JM,aq3]
 rw [ajn hk (fun _=>q.isIn hk) (by omega) (by omega),j,h]
 rfl
theorem aGT (hk:F3 k) (E:Fm g) (F:g.kind=16) (I:LB×Int->OS S) {l:LB} (J: ∀b∈l,b.kids=[AK b]/\Fm (AK b)/\RX true b.face) (hl:l.length<=20000):
  ∀ (r p acc:LB) (m:Nat) (c:Int),l=p++r->r.length<m->acc.length+r.length<=20000->
   ∃l',avT k I (eh g) l m c (p.length:Int) acc=I (acc++l',ut (stE c (in1 (eh g) r)))/\l'.length=r.length/\BrP 50000 l'/\ ∀q,stE c (in1 (eh g) r)= .ok q->l'=q:=by
 intro r
 induction r with
 |nil=>
  intro p acc m c h B ha
  obtain ⟨m,rfl,z⟩:=amr B
  refine ⟨[], ?_,rfl,atK _,fun q h=> ?_⟩
  ·simp only [avT,aw8,akb h,n3,arE]
   by_cases hc:c=0
   ·subst hc;rfl
   ·rw [lb hc];rfl
  grind [oH,in1,lb]
 |cons x r L=>
  intro p acc m c h B ha
  obtain ⟨m,rfl,z⟩:=amr B
  obtain ⟨M,O,T,W⟩:=apy h (by omega)
  rw [aq5] at ha
  simp only [avT,aw8,M,ae,O,sf,ag hk.fu,T,aIg hk E F (J x (by grind)).1]
  rw [J5 (by grind)]
  obtain ⟨_,x2,x3⟩:=J x (by grind)
  have A:FN (mM c (J6 0 1 (arZ arD (eh g)))).1:=arW fun t h=>mD (by omega) (azf E F) h
  obtain ⟨l',h1,h2,hb,h3⟩:=L (p++[x]) (acc++[⟨x.face,[awc (mM c (J6 0 1 (arZ arD (eh g)))).1 [AK x]]⟩]) m (mM c (J6 0 1 (arZ arD (eh g)))).2 W z (by grind)
  refine ⟨⟨x.face,[awc (mM c (J6 0 1 (arZ arD (eh g)))).1 [AK x]]⟩::l', ?_,by grind,atT (G9 x3) (azZ A x2).1 (azZ A x2).2 hb,fun q j=> ?_⟩
  ·refine h1.trans ?_
   rw [List.append_assoc,List.singleton_append]
   congr 2
   by_cases hc:c=0
   ·subst hc
    rw [kR,oH,in1]
    cases Y:J6 0 1 (arZ arD (eh g)) with
    |error e=>
     have he:=al3 Y
     rw [show (tE (.error e)).2=e from rfl,lb (show e≠0 by omega)];rfl
    |ok u=>
     rw [show (tE (.ok u)).2=0 from rfl,oH,aD]
     cases in1 (eh g) r<;>rfl
   grind [n9,lb]
  ·by_cases hc:c=0
   ·subst hc
    rw [oH,in1] at j
    obtain ⟨u,g1,j⟩:=i8 j
    obtain ⟨l2,g2,j⟩:=i8 j
    grind [kR,tE,oH]
   grind [lb]
theorem aIh (hk:F3 k) {x:Br Tm} (q:x.kids=[AK x,k1 x]) (f0:Fm (AK x)) (f1:Fm (k1 x)) {b t:Tm} (fb:Fm b) (ft:Fm t) (c:Int) (I:Br Tm×Int->OS S):
  axA k x b t c I=I (⟨x.face,[dS 6 [dS 9 [(mM c (J6 0 1 (k1 x))).1],(mM (mM c (J6 0 1 (k1 x))).2 (c6 [AK x,b,J4 t.sys] (amg (AK x) b t.sys))).1]]⟩,(mM (mM c (J6 0 1 (k1 x))).2 (c6 [AK x,b,J4 t.sys] (amg (AK x) b t.sys))).2):=by
 have g0:af x.kids 0=some (AK x):=ED (n:=0) rfl (by grind)
 have g1:af x.kids 1=some (k1 x):=ED (n:=1) rfl (by grind)
 have j:wA 0 1 (k1 x)=J6 0 1 (k1 x):=if_pos f1.2
 simp only [axA,ag hk.fu,ar,zc,aum,aq3,g0,g1,sf]
 rw [ajn hk (fun _=>f1.isIn hk) (by omega) (by omega),j,ajm hk (fun _=>⟨f0.isIn hk,fb.isIn hk,Jc hk ft⟩) (fun e h=>BJ (fun e h=>uw h) h)]
 rfl
theorem aGU (hk:F3 k) {b t:Tm} (fb:Fm b) (ft:Fm t) (I:LB×Int->OS S) {l:LB} (z: ∀b∈l,b.kids=[AK b,k1 b]/\Fm (AK b)/\Fm (k1 b)/\RX true b.face) (hl:l.length<=20000):
  ∀ (r p acc:LB) (m:Nat) (c:Int),l=p++r->r.length<m->acc.length+r.length<=20000->
   ∃l',avS k I b t l m c (p.length:Int) acc=I (acc++l',ut (stE c (in2 b t.sys r)))/\l'.length=r.length/\BrP 500000 l'/\ ∀q,stE c (in2 b t.sys r)= .ok q->l'=q:=by
 intro r
 induction r with
 |nil=>
  intro p acc m c h L ha
  obtain ⟨m,rfl,F⟩:=amr L
  refine ⟨[], ?_,rfl,atK _,fun q h=> ?_⟩
  ·simp only [avS,aw7,akb h,n3,arE]
   by_cases hc:c=0
   ·subst hc;rfl
   ·rw [lb hc];rfl
  grind [oH,in2,lb]
 |cons x r O=>
  intro p acc m c h L ha
  obtain ⟨m,rfl,F⟩:=amr L
  obtain ⟨T,W,Y,e4⟩:=apy h (by omega)
  rw [aq5] at ha
  obtain ⟨x1,x2,x3,x4⟩:=z x (by grind)
  simp only [avS,aw7,T,ae,W,sf,ag hk.fu,ar,Y,aIh hk x1 x2 x3 fb ft]
  rw [J5 (by grind)]
  have J:FN (mM c (J6 0 1 (k1 x))).1:=arW fun t h=>mD (by omega) x3 h
  have E: ∀c,FN (mM c (c6 [AK x,b,J4 t.sys] (amg (AK x) b t.sys))).1:=fun c=>arW fun w h=>by
   obtain ⟨so,ff,M⟩:=BI h
   exact ⟨(ux hk x2 fb (iQ (wg x2.ok fb.ok (Jc hk ft).1 so).2.2) M).1.1,ff⟩
  have E:=E (mM c (J6 0 1 (k1 x))).2
  generalize hA:mM c (J6 0 1 (k1 x))=A at J E ⊢
  generalize hB:mM A.2 (c6 [AK x,b,J4 t.sys] (amg (AK x) b t.sys))=B at E ⊢
  have q9:=at6 (kd:=9) (by omega) (n:=20000) (ks:=[A.1]) (fun x z=>by simp at z;subst z;exact ⟨J.sm.1,by have:=J.sm.2;omega⟩) (by simp)
  have q6:=at6 (kd:=6) (by omega) (n:=80001) (ks:=[dS 9 [A.1],B.1]) (fun x z=>by
   simp at z
   rcases z with rfl|rfl
   ·refine ⟨q9.1, ?_⟩
    unfold dS;rw [am,aH,aH,aO];have:=J.sm.2;omega
   ·exact ⟨E.sm.1.mono (by omega),by have:=E.sm.2;omega⟩) (by simp)
  obtain ⟨l',h1,h2,hb,h3⟩:=O (p++[x]) (acc++[⟨x.face,[dS 6 [dS 9 [A.1],B.1]]⟩]) m B.2 e4 F (by grind)
  refine ⟨⟨x.face,[dS 6 [dS 9 [A.1],B.1]]⟩::l', ?_,by grind,atT (G9 x4) (q6.1.mono (by omega)) (by omega) hb,fun q j=> ?_⟩
  ·refine h1.trans ?_
   rw [List.append_assoc,List.singleton_append]
   congr 2
   subst hB;subst hA
   by_cases hc:c=0
   ·subst hc
    rw [kR,oH,in2]
    cases hh:J6 0 1 (k1 x) with
    |error e=>
     have he:=al3 hh
     rw [show (tE (.error e)).2=e from rfl,n9 (show e≠0 by omega),lb (show e≠0 by omega)];rfl
    |ok u=>
     rw [show (tE (.ok u)).2=0 from rfl,kR,aD]
     cases hw:c6 [AK x,b,J4 t.sys] (amg (AK x) b t.sys) with
     |error e=>
      have he:=BJ (fun e h=>uw h) hw
      rw [show (tE (.error e)).2=e from rfl,lb he];rfl
     |ok w=>
      rw [show (tE (.ok w)).2=0 from rfl,oH,aD]
      cases in2 b t.sys r<;>rfl
   grind [n9,lb]
  ·by_cases hc:c=0
   ·subst hc
    rw [oH,in2] at j
    obtain ⟨u,g1,j⟩:=i8 j
    obtain ⟨w,g2,j⟩:=i8 j
    obtain ⟨l2,g3,j⟩:=i8 j
    grind [kR,tE,oH]
   grind [lb]
end
theorem azu (hk:F3 k) (I:LB->OS S) {l:LB} (E: ∀b∈l,b.kids=[AK b,k1 b]) (hl:l.length<=20000):
  ∀ (r p acc:LB) (m:Nat),l=p++r->r.length<m->acc.length+r.length<=20000->
   avV k I l m (p.length:Int) acc=I (acc++r.map fun x=>⟨x.face,[k1 x]⟩):=by
 intro r
 induction r with
 |nil=>
  intro p acc m h j ha
  obtain ⟨m,rfl,q⟩:=amr j
  grind [avV,aw_,n3]
 |cons x r F=>
  intro p acc m h j ha
  obtain ⟨m,rfl,q⟩:=amr j
  obtain ⟨z,A,B,J⟩:=apy h (by omega)
  rw [aq5] at ha
  have g1:af x.kids 1=some (k1 x):=ED (n:=1) rfl (by grind)
  simp only [avV,aw_,z,ae,A,sf,ag hk.fu,B,ay_,g1,ar,aq3]
  grind [J5]
theorem aGV (hk:F3 k) (I:LB->OS S) {b t:Tm} {l:LB} (J: ∀b∈l,b.kids=[AK b,k1 b]) (hl:l.length<=20000):
  ∀ (r p acc:LB) (m:Nat),l=p++r->r.length<m->acc.length+r.length<=20000->
   avR k I t b l m (p.length:Int) acc=I (acc++in3 b t.sys r):=by
 intro r
 induction r with
 |nil=>
  intro p acc m h q ha
  obtain ⟨m,rfl,j⟩:=amr q
  grind [avR,aw6,n3,in3]
 |cons x r z=>
  intro p acc m h q ha
  obtain ⟨m,rfl,j⟩:=amr q
  obtain ⟨A,B,E,F⟩:=apy h (by omega)
  rw [aq5] at ha
  have g0:af x.kids 0=some (AK x):=ED (n:=0) rfl (by grind)
  simp only [avR,aw6,A,ae,B,sf,ag hk.fu,E,ay6,g0,ar,aq3,JM]
  rw [J5 (by grind),z (p++[x]) _ m F j (by grind),List.append_assoc];rfl
theorem aIQ {t x b:Tm} (ft:Fm t) (fx:Fm x) (fb:Fm b):Sm 60001 (.mk 15 0 alH [] [x,b] t.sys)/\am (.mk 15 0 alH [] [x,b] t.sys)<=299:=by
 obtain ⟨q,z,A,B,E,F,j⟩:=ft.ok.no
 have hs:ba t.sys:=by have:=ft.ok;cases t;rw [OkT] at this;exact this.2.2
 have hd:aO t.sys+1<=am t:=by cases t<;>grind [am,Tm.sys]
 have I:aI t.sys+1<=au t:=by cases t<;>grind [au,Tm.sys]
 have:=ft.siz;have:=ft.dep;have:=fx.siz;have:=fx.dep;have:=fb.siz;have:=fb.dep
 refine ⟨(Hn (kd:=15) (by omega) (r:=[]) ⟨(fun c hc=>by cases hc),by simp⟩ (ks:=[x,b]) (sys:=t.sys) (n:=40000) (m:=20000) (fun y h=>by
  simp at h
  rcases h with rfl|rfl
  ·exact ⟨fx.ok,by omega⟩
  ·exact ⟨fb.ok,by omega⟩) (by simp) (by grind [ay]) hs j (by omega) (by omega)), ?_⟩
 grind [am,aH]
theorem aGd {t b:Tm} (ft:Fm t) (fb:Fm b): ∀ {l:LB},(∀b∈l,Fm (AK b)/\RX true b.face)->BrP 60001 (in3 b t.sys l):=by
 intro l
 induction l with
 |nil=>intro _;exact atK _
 |cons x l j=>
  intro h
  obtain ⟨h1,h2⟩:=h x (by simp)
  have q:=aIQ ft h1 fb
  exact atT (G9 h2) q.1 q.2 (j fun x z=>h x (by simp [z]))
theorem aCw (hk:F3 k) {t g b a:Tm} {h j:LB} (ft:Fm t) (B:Fm g) (F:g.kind=16) (ha:g.kids.getD 0 noT=a) (fa:Fm a) (fb:Fm b) (h1:BrP 50000 h) (n1:h.length<=20000) (h2:BrP 500000 j) (n2:j.length<=20000):In k (awP g b t.sys h j):=by
 obtain ⟨E,hl,_⟩:=B.gl F
 obtain ⟨M,e2,e3,e4,_,_⟩:=aze B F
 have O:aO g.sys+1<=am g:=by cases g<;>grind [am,Tm.sys]
 have T:aI g.sys+1<=au g:=by cases g<;>grind [au,Tm.sys]
 have:=B.dep;have:=B.siz
 have bd:=fb.dep;have bz:=fb.siz;have ad:=fa.dep;have az:=fa.siz
 have I:Sm 40001 (arZ b (eh g))/\am (arZ b (eh g))<=202:=by
  refine ⟨Hn (kd:=18) (by omega) (r:=[]) ⟨(fun c hc=>by cases hc),by simp⟩ (ks:=[b]) (sys:=eh g) (n:=20000) (m:=20000) (fun y q=>by simp at q;subst q;exact ⟨fb.ok,by omega⟩) (by simp) (by grind [ay]) M (by omega) (by omega) (by omega), ?_⟩
  grind [am,aH]
 obtain ⟨J,W⟩:=avs (n:=500000) (au0 (fun x E=>by obtain ⟨t,Y,q2,q3⟩:=h1 x E;exact ⟨t,Y,q2.mono (by omega),q3⟩) h2)
 have hz:aI (h++j)<=40000*500000:=aru J.siz (arA _ (by grind))
 have z:=Hn (kd:=15) (by omega) (r:=[]) ⟨(fun c hc=>by cases hc),by simp⟩ (ks:=[a,arZ b (eh g)]) (sys:=h++j) (n:=60001) (m:=40000*500000) (fun y q=>by
  simp at q
  rcases q with rfl|rfl
  ·exact ⟨fa.ok,by omega⟩
  ·exact ⟨I.1.ok,by omega⟩) (by simp) (by rw [ay,ay,ay];have:=I.1.siz;omega) J.ok (by grind) W hz
 obtain ⟨c1,c2⟩:=avs (aGd ft fb (l:=g.sys) fun x A=>⟨(E x A).2.1,(E x A).2.2.2⟩)
 have hlen:(in3 b t.sys g.sys).length=g.sys.length:=by grind [in3]
 have ao:aI (in3 b t.sys g.sys)<=20000*60001:=aru c1.siz (arA _ (by omega))
 unfold awP
 rw [ha]
 have L:am (.mk 15 0 alH [] [a,arZ b (eh g)] (h++j))<=300:=z.dep
 refine ⟨?_,hk.fd ?_, ?_⟩
 ·rw [OkT,aZ,aZ]
  exact ⟨⟨by unfold aG;omega,by unfold aG;omega,by decide,(fun c hc=>by cases hc),by simp,by simp,by omega⟩,⟨z.ok,trivial⟩,c1.ok⟩
 all_goals grind [am,aH,au,ay]
theorem aIf (hk:F3 k) {t:Tm} (J:In k t) (I:Tm×Bool×Int->OS S):axy k t I=I (azI t):=by
 have a6:4294968296<=k:=hk
 simp only [axy,ag hk.fu,ar,amv J.1 J.2.1 J.dep]
 unfold azI
 by_cases O:bw t=0
 case neg=>rw [dj O,aqD,ae,if_pos O];rfl
 rw [O,show (!((0:Int)==0))=false from rfl,n3,if_neg (by simp)]
 have ft:Fm t:=⟨J.1,O⟩
 by_cases B:t.kind=15
 case neg=>rw [beq_false_of_ne B,aqD,ae,if_neg (fun h=>B h.1)];rfl
 rw [B,show (!((15:Int)==15))=false from rfl,n3]
 obtain ⟨g,b,M⟩:=I8 (E5 ft B (n:=2) rfl)
 obtain ⟨g0,g1⟩:=KQ M
 obtain ⟨d0,d1⟩:=EC M
 have T:Fm g:=ft.kid (by grind)
 have fb:Fm b:=ft.kid (by grind)
 obtain ⟨sy,W⟩:=ft.sy B
 rw [g0,sf,d0]
 by_cases A:g.kind=16
 case neg=>rw [beq_false_of_ne A,aqD,ae,if_neg (fun h=>A h.2)];rfl
 rw [A,show (!((16:Int)==16))=false from rfl,n3,vU t J.1 _ J.2.1,g0,sf,g1,sf,sf,if_pos ⟨rfl,rfl⟩]
 obtain ⟨Y,hl,a,a7,fa⟩:=T.gl A
 have ga:af g.kids 0=some a:=ED (n:=0) rfl (by grind)
 have ad:g.kids.getD 0 noT=a:=by grind
 have ao: ∀q:LB->OS S,au4 k g q=q (eh g):=fun q=>by
  simp only [au4,ag hk.fu,axE,ayK]
  exact azu hk q (fun b hb=>(Y b hb).1) hl g.sys [] [] k rfl (by omega) (by grind)
 rw [ao]
 obtain ⟨L,i1,i2,i3,i4⟩:=aGT hk T A (fun r8=>ay9 k g.sys b t r8.2 fun E=>asP (aw 1099511627776 r8.1.length E.1.length) fun ax=>asP (af g.kids 0) fun F=>aun k b (eh g) fun j=>JM k 15 (r8.1++E.1) [F,(Tm.mk j.1 j.2.1 j.2.2.1 [] j.2.2.2.1 j.2.2.2.2)] fun r13=>awr k g.sys t b fun r14=>JM k 17 r14 [(Tm.mk r13.1 r13.2.1 r13.2.2.1 [] r13.2.2.2.1 r13.2.2.2.2)] fun x=>ly k (Tm.mk x.1 x.2.1 x.2.2.1 [] x.2.2.2.1 x.2.2.2.2) E.2 fun z=>I (z.1,z.2.1,z.2.2.1)) (l:=t.sys) sy W t.sys [] [] k 0 rfl (by omega) (by grind)
 refine alQ (b:=_) ?_ (i1.trans ?_)
 ·rfl
 rw [as2,oH]
 rw [oH] at i4
 obtain ⟨l2,j1,j2,j3,j4⟩:=aGU hk fb ft (fun E=>asP (aw 1099511627776 L.length E.1.length) fun ax=>asP (af g.kids 0) fun F=>aun k b (eh g) fun j=>JM k 15 (L++E.1) [F,(Tm.mk j.1 j.2.1 j.2.2.1 [] j.2.2.2.1 j.2.2.2.2)] fun r13=>awr k g.sys t b fun r14=>JM k 17 r14 [(Tm.mk r13.1 r13.2.1 r13.2.2.1 [] r13.2.2.2.1 r13.2.2.2.2)] fun x=>ly k (Tm.mk x.1 x.2.1 x.2.2.1 [] x.2.2.2.1 x.2.2.2.2) E.2 fun z=>I (z.1,z.2.1,z.2.2.1)) (l:=g.sys) Y hl g.sys [] [] k (ut (in1 (eh g) t.sys)) rfl (by omega) (by grind)
 refine alQ (b:=_) ?_ (j1.trans ?_)
 ·rfl
 rw [as2]
 dsimp only
 rw [J5 (by omega),ga,sf]
 simp only [aun,JM,ag hk.fu,ar,awr,aAb]
 have az:=aCw hk ft T A ad fa fb i3 (by omega) j3 (by omega)
 have h3:=fun q:LB->OS S=>aGV hk q (b:=b) (t:=t) (fun b hb=>(Y b hb).1) hl g.sys [] [] k rfl (by omega) (by grind)
 refine (h3 _).trans ?_
 rw [as2]
 rw [show (Tm.mk 17 0 alH [] [Tm.mk 15 0 alH [] [a,Tm.mk 18 0 alH [] [b] (eh g)] (L++l2)] (in3 b t.sys g.sys))=awP g b t.sys L l2 from by grind [awP],Ry hk az]
 unfold awQ
 rw [d0,d1]
 cases q1:in1 (eh g) t.sys with
 |error e=>
  have he:=aGa q1
  rw [show ut (.error e:Except Int (LB))=e from rfl,lb (show e≠0 by omega),lk]
  exact JF (show e≠0 by omega) I
 |ok m1=>
  have:=i4 m1 q1
  subst this
  rw [show ut (.ok L:Except Int (LB))=0 from rfl,oH,aD]
  rw [q1,show ut (.ok L:Except Int (LB))=0 from rfl,oH] at j4
  cases q2:in2 b t.sys g.sys with
  |error e=>
   have he:=aGc q2
   rw [show ut (.error e:Except Int (LB))=e from rfl,lk]
   exact JF (show e≠0 by omega) I
  |ok m2=>
   simp_all [ut,aD,aae]
def asZ {α β:Type} (F:α->Except Int β):List α->Except Int (List β)
 |[]=> .ok []
 |x::l=>bE (F x) fun b=>bE (asZ F l) fun h=> .ok (b::h)
theorem aCv {α β:Type} {F:α->Except Int β}: ∀ {l:List α} {e:Int},(∀x∈l,∀e,F x= .error e->0<e/\e<=1000)->asZ F l= .error e->0<e/\e<=1000:=by
 intro l
 induction l<;>grind [asZ,be]
theorem aAX {l:LB} {L:Nat->Int->Int->LB->OS S} {I:LB×Int->OS S} {g:Int->Br Tm->Br Tm×Int} {F:Br Tm->Except Int (Br Tm)} {Q:Br Tm->Prop} (hl:l.length<=20000)
  (A: ∀ (m:Nat) (c:Int) (acc:LB),acc.length<=20000->L (m+1) c (l.length:Int) acc=I (acc,c))
  (z: ∀ (m:Nat) (c:Int) (x:Br Tm) (p r acc:LB),l=p++x::r->acc.length<20000->L (m+1) c (p.length:Int) acc=L m (g c x).2 (((p++[x]).length:Nat):Int) (acc++[(g c x).1]))
  (T: ∀x∈l,∀b,F x= .ok b->g 0 x=(b,0)) (h1: ∀x∈l,∀e,F x= .error e->e≠0/\(g 0 x).2=e) (h2: ∀x∈l,∀c,c≠0->(g c x).2=c) (hq: ∀x∈l,∀c,Q (g c x).1):
  ∀ (r p acc:LB) (m:Nat) (c:Int),l=p++r->r.length<m->acc.length+r.length<=20000->
   ∃l',L m c (p.length:Int) acc=I (acc++l',ut (stE c (asZ F r)))/\l'.length=r.length/\(∀y∈l',Q y)/\ ∀q,stE c (asZ F r)= .ok q->l'=q:=by
 intro r
 induction r with
 |nil=>
  intro p acc m c h E ha
  obtain ⟨m,rfl,B⟩:=amr E
  refine ⟨[], ?_,rfl,(fun y J=>by cases J),fun q h=> ?_⟩
  ·rw [arE] at h
   subst h
   rw [A m c acc (by omega),arE]
   by_cases hc:c=0
   ·subst hc;rfl
   ·rw [lb hc];rfl
  grind [oH,asZ,lb]
 |cons x r W=>
  intro p acc m c h E ha
  obtain ⟨m,rfl,B⟩:=amr E
  rw [aq5] at ha
  have M:x∈l:=by grind
  rw [z m c x p r acc h (by omega)]
  obtain ⟨l',i1,i2,i3,i4⟩:=W (p++[x]) (acc++[(g c x).1]) m (g c x).2 (by grind) B (by grind)
  refine ⟨(g c x).1::l', ?_,by grind,fun y J=> ?_,fun q j=> ?_⟩
  ·rw [i1,List.append_assoc,List.singleton_append]
   congr 2
   by_cases hc:c=0
   ·subst hc
    rw [oH,asZ]
    cases O:F x with
    |error e=>
     obtain ⟨Y,q2⟩:=h1 x M e O
     rw [q2,lb Y];rfl
    |ok b=>
     rw [T x M b O,oH,aD]
     cases asZ F r<;>rfl
   grind [lb]
  ·grind
  ·by_cases hc:c=0
   ·subst hc
    rw [oH,asZ] at j
    obtain ⟨b,g1,j⟩:=i8 j
    obtain ⟨l2,g2,j⟩:=i8 j
    grind [oH]
   grind [lb]
def piF (x:Br Tm):Except Int (Br Tm):=bE (J6 1 0 (AK x)) fun u=> .ok ⟨x.face,[dS 6 [u,vN 0]]⟩
def piX (b a:Tm) (sys:LB):Except Int Tm:=bE (J6 1 0 a) fun a'=>bE (asZ piF sys) fun l=> .ok (dS 5 [.mk 15 0 alH [] [b,dS 6 [a',vN 0]] l])
theorem aHe {b a:Tm} {sys:LB} {e:Int} (h:piX b a sys= .error e):0<e/\e<=1000:=by
 unfold piX at h
 rcases be h with h|⟨_,_,h⟩
 ·exact al3 h
 rcases be h with h|⟨_,_,h⟩
 ·refine aCv (fun x _ e h=> ?_) h
  unfold piF at h
  rcases be h with h|⟨_,_,h⟩
  ·exact al3 h
  simp_all
 simp_all
section
variable {x1 x2:Int} {x3:BA} {x4:LC} {x5:LT} {x6 sys:LB}
theorem ayE (hk:F3 k) {t:Tm} (ft:Fm t) {a b c:Int} (ha:0<=a/\a<1000) (hb:0<=b/\b<1000) (I:Tm×Int->OS S):zb k t a b c I=I (mM c (J6 a b t)):=by
 rw [ajn hk (fun _=>ft.isIn hk) ha hb,show wA a b t=J6 a b t from if_pos ft.2]
theorem aIk (hk:F3 k) {u:Tm} (fu:Fm u) (c:Int) (I:LT×Int->OS S):axH k u c x1 x2 x3 x4 x5 x6 sys I=I ([dS 6 [(mM c (J6 1 0 u)).1,vN 0]],(mM c (J6 1 0 u)).2):=by
 simp only [axH,ag hk.fu,ar,ayE hk fu (show (0:Int)<=1/\(1:Int)<1000 by omega) (show (0:Int)<=0/\(0:Int)<1000 by omega),au5,zc]
 rfl
end
theorem vn0_sm:Sm 1 (vN 0)/\am (vN 0)=1:=by
 unfold vN
 refine ⟨⟨?_, ?_, ?_⟩, ?_⟩
 ·rw [OkT,aZ,ba];exact ⟨⟨by unfold aG;omega,by unfold aG;omega,by decide,(fun c hc=>by cases hc),by simp,by simp,by simp⟩,trivial,trivial⟩
 all_goals grind [au,ay,aI,am,aH,aO]
theorem azX {a:Tm} (ha:FN a):Sm 80001 (dS 6 [a,vN 0])/\am (dS 6 [a,vN 0])<=201:=by
 have h:=at6 (kd:=6) (by omega) (n:=20000) (ks:=[a,vN 0]) (fun x j=>by
  simp at j
  rcases j with rfl|rfl
  ·exact ⟨ha.sm.1,by have:=ha.sm.2;omega⟩
  ·exact ⟨vn0_sm.1.mono (by omega),by rw [vn0_sm.2];omega⟩) (by simp)
 refine ⟨h.1, ?_⟩
 unfold dS;rw [am,aH,aH,aH,aO,vn0_sm.2];have:=ha.sm.2;omega
theorem ayH {x y:Tm} {l:LB} {n m:Nat} (j:Sm n x) (q:Sm n y) (F:am x<=290) (I:am y<=290) (hn:n<=1000000) (hb:BrP m l) (B:m<=1000000) (hl:l.length<=40000):Sm 50000000000 (.mk 15 0 alH [] [x,y] l):=by
 obtain ⟨A,E⟩:=avs hb
 have h:aI l<=40000*1000000:=aru A.siz (Nat.mul_le_mul hl B)
 exact (Hn (kd:=15) (by omega) (r:=[]) ⟨(fun c hc=>by cases hc),by simp⟩ (ks:=[x,y]) (sys:=l) (n:=2000000) (m:=40000*1000000) (fun z h=>by
  simp at h
  rcases h with rfl|rfl
  ·exact ⟨j.ok,by omega⟩
  ·exact ⟨q.ok,by omega⟩) (by simp) (by rw [ay,ay,ay];have:=j.siz;have:=q.siz;omega) A.ok (by omega) E h).mono (by omega)
theorem aBl (hk:F3 k) {kd:Int} (j:0<=kd/\kd<=28) {x:Tm} (h:Sm 50000000000 x):In k (dS kd [x]):=by
 have:=h.dep;have:=h.siz
 unfold dS
 refine ⟨?_,hk.fd ?_, ?_⟩
 ·rw [OkT,aZ,aZ,ba]
  exact ⟨⟨by unfold aG;omega,by unfold aG;omega,by decide,(fun c hc=>by cases hc),by simp,by simp,by simp⟩,⟨h.ok,trivial⟩,trivial⟩
 all_goals grind [am,aH,aO,au,ay,aI]
theorem aAu {X:Except Int Tm} {y:Tm} {c:Int} (h: ∀t,X= .ok t->y=t/\c=0) (h1: ∀e,X= .error e->e≠0/\c=e) (g:Tm×Bool×Int->OS S):g ((dM c y).1,(dM c y).2==0,(dM c y).2)=g (ar_ X):=by
 cases j:X<;>simp_all [JF,aae]
section
variable {x1 x2:Int} {x3:BA} {x4:LC} {x5:LT} {x6 sys:LB}
def BrQ (n:Nat) (x:Br Tm):Prop:= ∃t,x.kids=[t]/\Sm n t/\am t<=299/\aq x.face/\x.face.length<1073741824
theorem aC_ (hk:F3 k) {t p b:Tm} (q:t.kids=[p,b]) (fb:Fm b) (fa:Fm (Tm.mk x1 x2 x3 x4 x5 x6)) (sy: ∀b∈sys,b.kids=[AK b]/\Fm (AK b)/\RX true b.face) (B:sys.length<=20000) (I:Int×Int×BA×LT×Int->OS S):
  ∃y c,axI k t 0 x1 x2 x3 x4 x5 x6 sys I=I (5,0,alH,[y],c)/\In k (dS 5 [y])/\(∀z,piX b (Tm.mk x1 x2 x3 x4 x5 x6) sys= .ok z->dS 5 [y]=z/\c=0)/\ ∀e,piX b (Tm.mk x1 x2 x3 x4 x5 x6) sys= .error e->e≠0/\c=e:=by
 have O:4294968296<=k:=hk
 obtain ⟨g0,g1⟩:=KQ q
 have key:=fun RET=>aAX (S:=S) (l:=sys) (L:=fun m c i acc=>avX k RET x1 x2 x3 x4 x5 x6 sys m c i acc) (I:=RET) (g:=fun c x=>(⟨x.face,[dS 6 [(mM c (J6 1 0 (AK x))).1,vN 0]]⟩,(mM c (J6 1 0 (AK x))).2)) (F:=piF) (Q:=BrQ 80001) B
  (fun m c acc _=>by
   grind [avX,axc,n3])
  (fun m c x p r acc h ha=>by
   obtain ⟨T,W,Y,_⟩:=apy h (by omega)
   obtain ⟨q1,q2,_⟩:=sy x (by grind)
   have hg:af x.kids 0=some (AK x):=ED (n:=0) rfl (by grind)
   simp only [avX,axc,T,ae,W,sf,hg,ag hk.fu,ar,aIk hk q2,aq3,Y]
   grind [J5])
  (fun x j b h=>by
   unfold piF at h
   obtain ⟨u,h1,h⟩:=i8 h
   injection h with h;subst h
   rw [kR,h1];rfl)
  (fun x j e h=>by
   unfold piF at h
   rcases be h with h|⟨_,_,h⟩
   ·have:=al3 h;rw [kR,h];exact ⟨by omega,rfl⟩
   simp_all)
  (fun x j c hc=>by rw [n9 hc])
  (fun x j c=>by
   obtain ⟨q1,q2,q3⟩:=sy x j
   have:=azX (arW (c:=c) (x:=J6 1 0 (AK x)) fun t h=>mD (by omega) q2 h)
   exact ⟨_,rfl,this.1,by omega,G9 q3⟩)
  sys [] [] k (mM 0 (J6 1 0 (Tm.mk x1 x2 x3 x4 x5 x6))).2 rfl (by omega) (by grind)
 obtain ⟨l',h1,h2,h3,E⟩:=key fun J=>I (5,0,alH,[.mk 15 0 alH [] [b,dS 6 [(mM 0 (J6 1 0 (Tm.mk x1 x2 x3 x4 x5 x6))).1,vN 0]] J.1],J.2)
 have fA:FN (mM 0 (J6 1 0 (Tm.mk x1 x2 x3 x4 x5 x6))).1:=arW fun t h=>mD (by omega) fa h
 refine ⟨_,ut (stE (mM 0 (J6 1 0 (Tm.mk x1 x2 x3 x4 x5 x6))).2 (asZ piF sys)), ?_,aBl hk (by omega) (ayH (n:=80001) (fb.sm.mono (by omega)) (azX fA).1 (by have:=fb.dep;omega) (by grind [azX]) (by omega) h3 (by omega) (by omega)), ?_⟩
 ·simp only [axI,ag hk.fu,ar,ayE hk fa (show (0:Int)<=1/\(1:Int)<1000 by omega) (show (0:Int)<=0/\(0:Int)<1000 by omega),au5,zc,avA,aAf,g1,sf,JM]
  exact h1
 ·unfold piX
  rw [kR] at E ⊢
  cases ha:J6 1 0 (Tm.mk x1 x2 x3 x4 x5 x6) with
  |error e=>
   have he:=al3 ha
   rw [show (tE (.error e)).2=e from rfl,lb (show e≠0 by omega)]
   exact ⟨fun z h=>(by cases h),fun e' h=>by injection h with h;subst h;exact ⟨by omega,rfl⟩⟩
  |ok A=>
   rw [ha,show (tE (.ok A)).2=0 from rfl,oH] at E
   rw [show (tE (.ok A)).2=0 from rfl,oH,aD]
   cases M:asZ piF sys with
   |error e=>
    refine ⟨fun z h=>(by cases h),fun e' h=> ?_⟩
    injection h with h;subst h
    have:=aHe (b:=b) (a:=Tm.mk x1 x2 x3 x4 x5 x6) (sys:=sys) (e:=e) (by unfold piX;rw [ha,M];rfl)
    exact ⟨by omega,rfl⟩
   |ok l=>
    have:=E l M
    subst this
    exact ⟨fun z h=>by injection h with h;subst h;exact ⟨rfl,rfl⟩,fun e h=>by cases h⟩
end
def parts (kd:Int) (sys:LB):LB:=sys.map fun x=>⟨x.face,[dS kd [AK x]]⟩
theorem awd {kd:Int} (j:0<=kd/\kd<=28) {a:Tm} (fa:FN a):Sm 80001 (dS kd [a])/\am (dS kd [a])<=201:=by
 have h:=at6 (kd:=kd) j (n:=20000) (ks:=[a]) (fun x q=>by simp at q;subst q;exact ⟨fa.sm.1,by have:=fa.sm.2;omega⟩) (by simp)
 refine ⟨h.1, ?_⟩
 unfold dS;rw [am,aH,aH,aO];have:=fa.sm.2;omega
theorem aCD {kd:Int} (h:0<=kd/\kd<=28) {sys:LB} (sy: ∀b∈sys,b.kids=[AK b]/\Fm (AK b)/\RX true b.face):BrP 80001 (parts kd sys):=fun y j=>by
 obtain ⟨x,q,rfl⟩:=arR.1 j
 obtain ⟨_,q2,z⟩:=sy x q
 have:=awd h (.inl q2)
 grind [G9]
theorem aCE (hk:F3 k) {kd:Int} (h:0<=kd/\kd<=28) {sys:LB} (sy: ∀b∈sys,b.kids=[AK b]/\Fm (AK b)/\RX true b.face) (j:sys.length<=20000):In k (J4 (parts kd sys)):=by
 obtain ⟨q,x⟩:=avs (aCD h sy)
 exact Jb hk (by omega) q (by grind [parts]) x
def ayG (k0 k1 a:Tm) (sys:LB):Except Int Tm:=
 bE (c6 [k0,dS 9 [a],J4 (parts 9 sys)] (amg k0 (dS 9 [a]) (parts 9 sys))) fun f=>bE (J6 0 1 k1) fun b=>bE (ams 0 b f) fun line=>
 bE (c6 [line,dS 10 [a],J4 (parts 10 sys)] (dF line (dS 10 [a]) (parts 10 sys))) fun y=> .ok (dS 8 [.mk 15 0 alH [] [k0,dS 9 [a]] (parts 9 sys),y])
section
variable {x1 x2:Int} {x3:BA} {x4:LC} {x5:LT} {x6 sys:LB}
theorem aGX (hk:F3 k) (I:LB->OS S) {c kd:Int} (sy: ∀b∈sys,b.kids=[AK b]) (z:sys.length<=20000):
  ∀ (r p acc:LB) (m:Nat),sys=p++r->r.length<m->acc.length+r.length<=20000->
   avZ k I c x1 x2 x3 x4 x5 x6 sys kd m (p.length:Int) acc=I (acc++parts kd r):=by
 intro r
 induction r with
 |nil=>
  intro p acc m h q ha
  obtain ⟨m,rfl,j⟩:=amr q
  grind [avZ,axe,n3,parts]
 |cons x r A=>
  intro p acc m h q ha
  obtain ⟨m,rfl,j⟩:=amr q
  obtain ⟨B,E,F,J⟩:=apy h (by omega)
  rw [aq5] at ha
  have g0:af x.kids 0=some (AK x):=ED (n:=0) rfl (by grind)
  simp only [avZ,axe,B,ae,E,sf,ag hk.fu,F,aza,g0,ar,aq3,zc]
  rw [J5 (by grind),A (p++[x]) _ m J j (by grind),List.append_assoc];rfl
theorem aIl (hk:F3 k) {c kd:Int} (sy: ∀b∈sys,b.kids=[AK b]) (h:sys.length<=20000) (I:Int×Int×BA×LT×LB->OS S):
  aws k kd c x1 x2 x3 x4 x5 x6 sys I=I (kd,0,alH,[Tm.mk x1 x2 x3 x4 x5 x6],parts kd sys):=by
 have j:4294968296<=k:=hk
 simp only [aws,ag hk.fu,zc,avC,aAh]
 refine (aGX hk _ sy h sys [] [] k rfl (by omega) (by grind)).trans ?_
 rw [as2]
theorem azg (hk:F3 k) {l a:Tm} {s:LB} (hl:In k l) (ha:In k a) (hs:In k (J4 s)) (c:Int):FN (mM c (c6 [l,a,J4 s] (dF l a s))).1:=arW fun t h=>by
 obtain ⟨so,ff,j⟩:=BI h
 obtain ⟨f1,f2,f3⟩:=wg hl.1 ha.1 hs.1 so
 exact ⟨(yu hk f1 f2 (iQ f3) j).1.1,ff⟩
theorem aA8 (hk:F3 k) {l a:Tm} {s:LB} (hl:In k l) (ha:In k a) (hs:In k (J4 s)) {t:Tm} (h:c6 [l,a,J4 s] (amg l a s)= .ok t):Fm t:=by
 obtain ⟨so,ff,j⟩:=BI h
 obtain ⟨f1,f2,f3⟩:=wg hl.1 ha.1 hs.1 so
 exact ⟨(ux hk f1 f2 (iQ f3) j).1.1,ff⟩
theorem aGe (hk:F3 k) {kd:Int} (q:0<=kd/\kd<=28) {x y:Tm} (h:Sm 50000000000 x) (j:Sm 50000000000 y):In k (dS kd [x,y]):=by
 have:=h.dep;have:=h.siz;have:=j.dep;have:=j.siz
 unfold dS
 refine ⟨?_,hk.fd ?_, ?_⟩
 ·rw [OkT,aZ,aZ,aZ,ba]
  exact ⟨⟨by unfold aG;omega,by unfold aG;omega,by decide,(fun c hc=>by cases hc),by simp,by simp,by simp⟩,⟨h.ok,j.ok,trivial⟩,trivial⟩
 all_goals grind [am,aH,aO,au,ay,aI]
theorem aDa (J:F4 k) {t k0 j:Tm} (M:t.kids=[k0,j]) (f0:Fm k0) (f1:Fm j) (fa:Fm (Tm.mk x1 x2 x3 x4 x5 x6)) (sy: ∀b∈sys,b.kids=[AK b]/\Fm (AK b)/\RX true b.face) (x:sys.length<=20000) (I:Int×Int×BA×LT×Int->OS S):
  ∃ks c,axJ k t 0 x1 x2 x3 x4 x5 x6 sys I=I (8,0,alH,ks,c)/\In k (dS 8 ks)/\(∀z,ayG k0 j (Tm.mk x1 x2 x3 x4 x5 x6) sys= .ok z->dS 8 ks=z/\c=0)/\ ∀e,ayG k0 j (Tm.mk x1 x2 x3 x4 x5 x6) sys= .error e->e≠0/\c=e:=by
 have hk:=J.f3
 obtain ⟨g0,g1⟩:=KQ M
 generalize ha:Tm.mk x1 x2 x3 x4 x5 x6=a at fa
 have O:=aCE hk (kd:=9) (by omega) sy x
 have T:=aCE hk (kd:=10) (by omega) sy x
 have a9:=awd (kd:=9) (by omega) (.inl fa)
 have W:=awd (kd:=10) (by omega) (.inl fa)
 have i9:In k (dS 9 [a]):=a9.1.isIn hk (by omega)
 have i10:In k (dS 10 [a]):=W.1.isIn hk (by omega)
 generalize A:mM 0 (c6 [k0,dS 9 [a],J4 (parts 9 sys)] (amg k0 (dS 9 [a]) (parts 9 sys)))=F
 generalize hB:mM F.2 (J6 0 1 j)=B
 generalize q:mM B.2 (ri 0 B.1 F.1)=L
 generalize hC:mM L.2 (c6 [L.1,dS 10 [a],J4 (parts 10 sys)] (dF L.1 (dS 10 [a]) (parts 10 sys)))=C
 have fF:FN F.1:=by rw [<-A];exact arW fun t h=>aA8 hk (f0.isIn hk) i9 O h
 have fB:FN B.1:=by rw [<-hB];exact arW fun t h=>mD (by omega) f1 h
 have fL:FN L.1:=by
  rw [<-q]
  refine arW fun t h=> ?_
  unfold ri sh at h
  split at h
  case isFalse=>cases h
  rename_i E
  split at h
  case isFalse=>cases h
  rename_i q2
  exact ayn (by omega) ⟨fB.sm.1.ok,E⟩ ⟨fF.sm.1.ok,q2⟩ h
 have iF:In k F.1:=fF.sm.1.isIn hk (by omega)
 have iB:In k B.1:=fB.sm.1.isIn hk (by omega)
 have iL:In k L.1:=fL.sm.1.isIn hk (by omega)
 have fC:FN C.1:=by grind [azg]
 have Y:=ayH (n:=80001) (f0.sm.mono (by omega)) a9.1 (by have:=f0.dep;omega) (by omega) (by omega) (aCD (kd:=9) (by omega) sy) (by omega) (by grind [parts])
 refine ⟨[.mk 15 0 alH [] [k0,dS 9 [a]] (parts 9 sys),C.1],C.2, ?_,aGe hk (by omega) Y (fC.sm.1.mono (by omega)), ?_⟩
 ·simp only [axJ,ag hk.fu,ar,aIl hk (fun b hb=>(sy b hb).1) x,g0,g1,sf,JM,zc,ha]
  have e9:Tm.mk 9 0 alH [] [a] []=dS 9 [a]:=rfl
  have ad:Tm.mk 10 0 alH [] [a] []=dS 10 [a]:=rfl
  rw [e9,ad,ajm hk (fun _=>⟨f0.isIn hk,i9,O⟩) (fun e h=>BJ (fun e h=>uw h) h),A,Rv hk (fun _=>f1),hB,Hf J (fun _=>⟨iB,iF⟩),q,Rx hk (fun _=>⟨iL,i10,T⟩) (fun e h=>BJ (fun e h=>o_ h) h),hC]
 ·unfold ayG
  rw [kR] at A
  cases E:c6 [k0,dS 9 [a],J4 (parts 9 sys)] (amg k0 (dS 9 [a]) (parts 9 sys)) with
  |error e=>
   have he:=BH (fun e h=>uw h) E
   rw [E] at A;subst A
   rw [show (tE (.error e)).2=e from rfl,n9 (show e≠0 by omega)] at hB;subst hB
   dsimp only at q
   rw [n9 (show e≠0 by omega)] at q;subst q
   dsimp only at hC
   rw [n9 (show e≠0 by omega)] at hC;subst hC
   exact ⟨fun z h=>(by cases h),fun e' h=>by injection h with h;omega⟩
  |ok f=>
   have ff:=aA8 hk (f0.isIn hk) i9 O E
   rw [E] at A;subst A
   rw [show (tE (.ok f)).2=0 from rfl,kR] at hB
   rw [aD]
   cases q2:J6 0 1 j with
   |error e=>
    have he:=al3 q2
    rw [q2] at hB;subst hB
    rw [show (tE (.error e)).2=e from rfl,n9 (show e≠0 by omega)] at q;subst q
    dsimp only at hC
    rw [n9 (show e≠0 by omega)] at hC;subst hC
    exact ⟨fun z h=>(by cases h),fun e' h=>by injection h with h;omega⟩
   |ok b=>
    have fb:=mD (by omega) f1 q2
    rw [q2] at hB;subst hB
    rw [show (tE (.ok b)).2=0 from rfl,show (tE (.ok b)).1=b from rfl,show (tE (.ok f)).1=f from rfl,kR,show ri 0 b f=ams 0 b f from by unfold ri sh;rw [if_pos fb.2,if_pos ff.2]] at q
    rw [aD]
    cases q3:ams 0 b f with
    |error e=>
     have he:=AL q3
     rw [q3] at q;subst q
     rw [show (tE (.error e)).2=e from rfl,n9 (show e≠0 by omega)] at hC;subst hC
     exact ⟨fun z h=>(by cases h),fun e' h=>by injection h with h;omega⟩
    |ok line=>
     rw [q3] at q;subst q
     rw [show (tE (.ok line)).2=0 from rfl,show (tE (.ok line)).1=line from rfl,kR] at hC
     rw [aD]
     cases q4:c6 [line,dS 10 [a],J4 (parts 10 sys)] (dF line (dS 10 [a]) (parts 10 sys)) with
     |error e=>
      have he:=BH (fun e h=>o_ h) q4
      rw [q4] at hC;subst hC
      exact ⟨fun z h=>(by cases h),fun e' h=>by injection h with h;subst h;exact ⟨by omega,rfl⟩⟩
     |ok y=>
      rw [q4] at hC;subst hC
      exact ⟨fun z h=>by injection h with h;subst h;exact ⟨rfl,rfl⟩,fun e h=>by cases h⟩
end
abbrev pap (r:LC) (u lo h:Tm):Tm:= .mk 13 0 alH r [u,lo,h] []
def aug (l r:Tm) (x:Br Tm):Except Int (Br Tm):=
 bE (NF (agS x.face 0 1)) fun f=>bE (acr 0 1 0 1 (AK x)) fun u=>bE (J6 0 2 l) fun h=>bE (J6 0 2 r) fun j=> .ok ⟨f,[pap [⟨2,0⟩] u h j]⟩
def aym (k0 l r a:Tm) (sys:LB):Except Int Tm:=
 bE (J6 0 1 a) fun p=>bE (J6 0 1 l) fun h=>bE (J6 0 1 r) fun j=>bE (asZ (aug l r) sys) fun bs=>bE (J6 0 2 l) fun q=>bE (J6 0 2 r) fun x=>
 .ok (dS 12 [.mk 15 0 alH [] [k0,pap [⟨1,0⟩] p h j] (bs++[⟨[⟨0,1⟩],[q]⟩]++[⟨[⟨1,0⟩],[x]⟩])])
theorem aCF {l r:Tm} {x:Br Tm} {e:Int} (h:aug l r x= .error e):0<e/\e<=1000:=by
 unfold aug at h
 rcases be h with h|⟨_,_,h⟩
 ·exact T2 (q_ _ _ _) h
 rcases be h with h|⟨_,_,h⟩
 ·exact amo _ h
 rcases be h with h|⟨_,_,h⟩
 ·exact al3 h
 rcases be h with h|⟨_,_,h⟩
 ·exact al3 h
 simp_all
theorem at3 {a b:Int} (ha:0<=a/\a<4294967296) (hb:0<=b/\b<4294967296):aq [⟨a,b⟩]/\[(⟨a,b⟩:Cl)].length<1073741824:=⟨fun c hc=>by rw [List.mem_singleton] at hc;subst hc;exact ⟨ha,hb⟩,by simp⟩
theorem azW {r:LC} (q:aq r/\r.length<1073741824) {u lo h:Tm} (f1:FN u) (f2:FN lo) (f3:FN h):Sm 60001 (pap r u lo h)/\am (pap r u lo h)<=201:=by
 have a1:=f1.sm;have a2:=f2.sm;have a3:=f3.sm
 refine ⟨(Hn (kd:=13) (by omega) q (ks:=[u,lo,h]) (sys:=[]) (n:=60000) (m:=0) (fun x j=>by
  simp at j
  rcases j with rfl|rfl|rfl
  ·exact ⟨a1.1.ok,by omega⟩
  ·exact ⟨a2.1.ok,by omega⟩
  ·exact ⟨a3.1.ok,by omega⟩) (by simp) (by rw [ay,ay,ay,ay];have:=a1.1.siz;have:=a2.1.siz;have:=a3.1.siz;omega) (by rw [ba];trivial) (by simp) (by rw [aO];omega) (by rw [aI];omega)).mono (by omega), ?_⟩
 grind [am,aH,aO]
section
variable {x1 x2:Int} {x3:BA} {x4:LC} {x5:LT} {x6 sys:LB}
def auS (l r:Tm) (c:Int) (x:Br Tm):Br Tm×Int:=
 let R:=if c=0 then agS x.face 0 1 else ([],c)
 let U:=mM R.2 (acr 0 1 0 1 (AK x))
 let A:=mM U.2 (J6 0 2 l)
 let B:=mM A.2 (J6 0 2 r)
 (⟨R.1,[pap [⟨2,0⟩] U.1 A.1 B.1]⟩,B.2)
theorem aHa {l r:Tm} {x:Br Tm} {b:Br Tm} (h:aug l r x= .ok b):auS l r 0 x=(b,0):=by
 unfold aug at h
 obtain ⟨f,h1,h⟩:=i8 h
 obtain ⟨u,h2,h⟩:=i8 h
 obtain ⟨A,j,h⟩:=i8 h
 obtain ⟨B,q,h⟩:=i8 h
 injection h with h;subst h
 obtain ⟨z,rfl⟩:=rR h1
 unfold auS
 simp only [if_pos,z,kR,h2,j,q]
 rfl
theorem aHb {l r:Tm} {x:Br Tm} {e:Int} (h:aug l r x= .error e):e≠0/\(auS l r 0 x).2=e:=by
 have he:=aCF h
 refine ⟨by omega, ?_⟩
 have q:e≠0:=by omega
 unfold aug at h
 unfold auS
 simp only [if_pos]
 by_cases j:(agS x.face 0 1).2=0
 ·rw [jF j,aD] at h
  rw [j,kR]
  cases q2:acr 0 1 0 1 (AK x) with
  |error e'=>
   grind [lk,tE,n9]
  |ok u=>
   rw [q2,aD] at h
   rw [show (tE (.ok u)).2=0 from rfl,kR]
   cases z:J6 0 2 l with
   |error e'=>
    grind [lk,tE,n9]
   |ok A=>
    rw [z,aD] at h
    rw [show (tE (.ok A)).2=0 from rfl,kR]
    cases B:J6 0 2 r with
    |error e'=>rw [B,lk] at h;injection h with h
    |ok E=>grind [aD]
 grind [iO,lk,n9]
theorem aHc {l r:Tm} {x:Br Tm} {c:Int} (hc:c≠0):(auS l r c x).2=c:=by
 grind [auS,n9]
theorem aC9 (hk:F3 k) {t k0 l r:Tm} (a8:t.kids=[k0,l,r]) (f0:Fm k0) (f1:Fm l) (f2:Fm r) (fa:Fm (Tm.mk x1 x2 x3 x4 x5 x6)) (sy: ∀b∈sys,b.kids=[AK b]/\Fm (AK b)/\RX true b.face) (bc:sys.length<=20000) (I:Int×Int×BA×LT×Int->OS S):
  ∃y c,axG k t 0 x1 x2 x3 x4 x5 x6 sys I=I (12,0,alH,[y],c)/\In k (dS 12 [y])/\(∀z,aym k0 l r (Tm.mk x1 x2 x3 x4 x5 x6) sys= .ok z->dS 12 [y]=z/\c=0)/\ ∀e,aym k0 l r (Tm.mk x1 x2 x3 x4 x5 x6) sys= .error e->e≠0/\c=e:=by
 have bf:4294968296<=k:=hk
 have g0:af t.kids 0=some k0:=ED (n:=0) rfl (by grind)
 have g1:af t.kids 1=some l:=ED (n:=1) rfl (by grind)
 have g2:af t.kids 2=some r:=ED (n:=2) rfl (by grind)
 generalize ha:Tm.mk x1 x2 x3 x4 x5 x6=a at fa
 have Y: ∀ {t:Tm} (ft:Fm t) (c:Int) (g:Tm×Int->OS S),zb k t 0 1 c g=g (mM c (J6 0 1 t)):=fun ft c g=>ayE hk ft (by omega) (by omega) g
 have T: ∀ {t:Tm} (ft:Fm t) (c:Int) (g:Tm×Int->OS S),zb k t 0 2 c g=g (mM c (J6 0 2 t)):=fun ft c g=>ayE hk ft (by omega) (by omega) g
 generalize hP:mM 0 (J6 0 1 a)=P
 generalize O:mM P.2 (J6 0 1 l)=Lo
 generalize J:mM Lo.2 (J6 0 1 r)=Hi
 have fP:FN P.1:=by rw [<-hP];exact arW fun t h=>mD (by omega) fa h
 have ax:FN Lo.1:=by rw [<-O];exact arW fun t h=>mD (by omega) f1 h
 have az:FN Hi.1:=by rw [<-J];exact arW fun t h=>mD (by omega) f2 h
 have key:=fun RET=>aAX (S:=S) (l:=sys) (L:=fun m c i acc=>avW k I x1 x2 x3 x4 x5 x6 sys t l r (13,0,alH,[⟨1,0⟩],[P.1,Lo.1,Hi.1]) m c acc i) (I:=RET) (g:=auS l r) (F:=aug l r) (Q:=BrQ 60001) (by omega)
 obtain ⟨l',h1,h2,h3,h4⟩:=key (fun q=>I (12,0,alH,[.mk 15 0 alH [] [k0,pap [⟨1,0⟩] P.1 Lo.1 Hi.1] (q.1++[⟨[⟨0,1⟩],[(mM q.2 (J6 0 2 l)).1]⟩]++[⟨[⟨1,0⟩],[(mM (mM q.2 (J6 0 2 l)).2 (J6 0 2 r)).1]⟩])],(mM (mM q.2 (J6 0 2 l)).2 (J6 0 2 r)).2))
  (fun m c acc ao=>by
   have:=akb (l:=sys) (p:=sys) (by simp)
   simp only [avW,axb,this,n3,ag hk.fu,ar,T f1,T f2,aq3,JM,zc]
   grind [J5])
  (fun m c x p q acc h ao=>by
   obtain ⟨e1,e2,e3,_⟩:=apy h (by omega)
   obtain ⟨q1,q2,W⟩:=sy x (by grind)
   have hg:af x.kids 0=some (AK x):=ED (n:=0) rfl (by grind)
   have a6:pH 1 1 (AK x)=acr 0 1 0 1 (AK x):=if_pos q2.2
   simp only [avW,axb,e1,ae,e2,sf,hg,ag hk.fu,ar,T f1,T f2,aq3,tO,e3]
   rw [v_ hk W.1.2 (G9 W).2 (by omega),v6 hk (b:=1) (fun _=>q2.isIn hk) (by omega),a6,J5 (by grind)]
   rfl)
  (fun x hx b h=>aHa h) (fun x hx e h=>aHb h) (fun x hx c hc=>aHc hc)
  (fun x hx c=>by
   obtain ⟨q1,q2,W⟩:=sy x hx
   unfold auS
   have fU: ∀c,FN (mM c (acr 0 1 0 1 (AK x))).1:=fun c=>arW fun t h=>jr (by omega) q2 h
   have fA: ∀c,FN (mM c (J6 0 2 l)).1:=fun c=>arW fun t h=>mD (by omega) f1 h
   have fB: ∀c,FN (mM c (J6 0 2 r)).1:=fun c=>arW fun t h=>mD (by omega) f2 h
   have ad:=azW (at3 (a:=2) (b:=0) (by omega) (by omega)) (fU (if c=0 then agS x.face 0 1 else ([],c)).2) (fA (mM (if c=0 then agS x.face 0 1 else ([],c)).2 (acr 0 1 0 1 (AK x))).2) (fB (mM (mM (if c=0 then agS x.face 0 1 else ([],c)).2 (acr 0 1 0 1 (AK x))).2 (J6 0 2 l)).2)
   refine ⟨_,rfl,ad.1,by omega, ?_⟩
   show aq (if c=0 then agS x.face 0 1 else ([],c)).1/\_
   split
   ·exact aoE W.1
   ·exact ⟨fun c hc=>(by cases hc),by simp⟩)
  sys [] [] k Hi.2 rfl (by omega) (by grind)
 generalize M:ut (stE Hi.2 (asZ (aug l r) sys))=E at h1
 generalize hA:mM E (J6 0 2 l)=A at h1
 generalize hB:mM A.2 (J6 0 2 r)=B at h1
 have fA:FN A.1:=by rw [<-hA];exact arW fun t h=>mD (by omega) f1 h
 have fB:FN B.1:=by rw [<-hB];exact arW fun t h=>mD (by omega) f2 h
 have ad:=azW (at3 (a:=1) (b:=0) (by omega) (by omega)) fP ax az
 have a7:BrP 60001 (l'++[⟨[⟨0,1⟩],[A.1]⟩]++[⟨[⟨1,0⟩],[B.1]⟩]):=au0 (au0 h3 (atT (at3 (by omega) (by omega)) (fA.sm.1.mono (by omega)) (by have:=fA.sm.2;omega) (atK _))) (atT (at3 (by omega) (by omega)) (fB.sm.1.mono (by omega)) (by have:=fB.sm.2;omega) (atK _))
 refine ⟨_,B.2, ?_,aBl hk (by omega) (ayH (n:=60001) (x:=k0) (y:=pap [⟨1,0⟩] P.1 Lo.1 Hi.1) (f0.sm.mono (by omega)) ad.1 (by have:=f0.dep;omega) (by omega) (by omega) a7 (by omega) (by simp;omega)), ?_⟩
 ·simp only [axG,aAe,ag hk.fu,ar,g1,g2,sf,ha,Y fa,Y f1,Y f2,tO,hP,O,J]
  exact h1
 ·unfold aym
  rw [kR] at hP
  cases q1:J6 0 1 a with
  |error e=>
   have he:=al3 q1
   have j:e≠0:=by omega
   rw [q1] at hP;subst hP
   rw [show (tE (.error e)).2=e from rfl,n9 j] at O;subst O
   dsimp only at J
   rw [n9 j] at J;subst J
   rw [lb j] at M
   have M:e=E:=M
   subst M
   rw [n9 j] at hA;subst hA
   dsimp only at hB
   rw [n9 j] at hB;subst hB
   exact ⟨fun z h=>(by cases h),fun e' h=>by injection h with h;omega⟩
  |ok p=>
   rw [q1] at hP;subst hP
   rw [show (tE (.ok p)).2=0 from rfl,kR] at O
   rw [aD]
   cases q2:J6 0 1 l with
   |error e=>
    have he:=al3 q2
    have j:e≠0:=by omega
    rw [q2] at O;subst O
    rw [show (tE (.error e)).2=e from rfl,n9 j] at J;subst J
    rw [lb j] at M
    have M:e=E:=M
    subst M
    rw [n9 j] at hA;subst hA
    dsimp only at hB
    rw [n9 j] at hB;subst hB
    exact ⟨fun z h=>(by cases h),fun e' h=>by injection h with h;omega⟩
   |ok lo=>
    rw [q2] at O;subst O
    rw [show (tE (.ok lo)).2=0 from rfl,kR] at J
    rw [aD]
    cases W:J6 0 1 r with
    |error e=>
     have he:=al3 W
     have j:e≠0:=by omega
     rw [W] at J;subst J
     rw [show (tE (.error e)).2=e from rfl,lb j] at M
     have M:e=E:=M
     subst M
     rw [n9 j] at hA;subst hA
     dsimp only at hB
     rw [n9 j] at hB;subst hB
     exact ⟨fun z h=>(by cases h),fun e' h=>by injection h with h;omega⟩
    |ok hi=>
     rw [W] at J;subst J
     rw [show (tE (.ok hi)).2=0 from rfl,oH] at M h4
     rw [aD]
     cases q4:asZ (aug l r) sys with
     |error e=>
      have he:=aCv (fun x _ e h=>aCF h) q4
      have j:e≠0:=by omega
      rw [q4] at M
      have M:e=E:=M
      subst M
      rw [n9 j] at hA;subst hA
      dsimp only at hB
      rw [n9 j] at hB;subst hB
      exact ⟨fun z h=>(by cases h),fun e' h=>by injection h with h;omega⟩
     |ok bs=>
      have:=h4 bs q4
      subst this
      rw [q4] at M
      have M:0=E:=M
      subst M
      rw [kR] at hA
      rw [aD]
      cases q5:J6 0 2 l with
      |error e=>
       have he:=al3 q5
       have j:e≠0:=by omega
       rw [q5] at hA;subst hA
       rw [show (tE (.error e)).2=e from rfl,n9 j] at hB;subst hB
       exact ⟨fun z h=>(by cases h),fun e' h=>by injection h with h;omega⟩
      |ok l2=>
       rw [q5] at hA;subst hA
       rw [show (tE (.ok l2)).2=0 from rfl,kR] at hB
       rw [aD]
       cases q6:J6 0 2 r with
       |error e=>
        have he:=al3 q6
        rw [q6] at hB;subst hB
        exact ⟨fun z h=>(by cases h),fun e' h=>by injection h with h;subst h;exact ⟨by omega,rfl⟩⟩
       |ok r2=>
        rw [q6] at hB;subst hB
        exact ⟨fun z h=>by injection h with h;subst h;exact ⟨rfl,rfl⟩,fun e h=>by cases h⟩
end
end Go.Proofs.YtgmmefmmnakbpaaGreatDoor
