/- Part 5 of a proof: the sources, with their names and remarks, lie in wip/. -/
import Derived.Test.YtgajalidbabccaaGreatDoorX4
import Derived.KernelRfl
open Bool renaming and_eq_true→ak,not_eq_true'→j9,not_false→dr,not_true→dT
open ByteArray renaming empty→au
open Eq renaming trans→aq
open Go.IntKind renaming wrap→af
open Int renaming add_zero→dH,le_refl→eD,toNat_natCast→ir
open List renaming all_cons→iO,all_eq_true→d7,append_nil→eZ,length_cons→dv,map_cons→jc,mem_append→er,mem_cons→eb,mem_map→dI,mem_singleton→ju,nil_append→fq
open Nat renaming le_trans→fN,zero_add→jd
open Option renaming bind→ag,bind_some→aV
set_option linter.unusedVariables false
set_option linter.unusedSimpArgs false
namespace Go.Proofs.YtgajalidbabccaaGreatDoor
open Go PI
set_option maxRecDepth 20000
variable {S:Type} {k:Nat}
def AZ (i:Int):Int->LC->LC:=fun d f=>cD (i+d) f
def gD (i:Int) (r:LC) (fa:Bool):gN:=fO (bZ i r fa) (AZ i)
theorem xH (i:Int) (r:LC) (fa:Bool) (d:Int) (f:LC):gD i r fa d f=bE (bZ i r fa d f) fun m=> .ok (cD (i+d) m):=rfl
theorem L_ {i:Int} {r:LC} {fa:Bool}: ∀d f e,gD i r fa d f= .error e->0<e/\e<=1000:=fun d f e h=>by
 rw [xH] at h
 rcases cS h with h|⟨_,_,h⟩
 ·exact Rq h
 simp_all
section
variable {hd:Tm->Int->LC->Int->Bool->(Tm->OS S)->OS S} {i d:Int} {r:LC} {t:Tm}
end
def dQ (i:Int) (r:LC) (t:Tm):Except Int Tm:=bE (eM (cm r i 1)) fun s=>b7 (gD i s false) (gD i s true) 0 t
theorem vz {i:Int} {r:LC} {t:Tm} {e:Int} (h:dQ i r t= .error e):0<e/\e<=1000:=by
 rcases cS h with h|⟨s,_,h⟩
 ·grind [Ei,CV,EN]
 ·exact qQ L_ L_ t h
theorem zh {i:Int} {r:LC} {t y:Tm} (h:dQ i r t= .ok y):y.kind=t.kind:=by
 obtain ⟨s,_,h⟩:=ar h
 exact akI h
theorem IR (hk:F3 k) {t:Tm} (ht:Fm t) {i:Int} (hi:0<=i/\i<24) {r:LC} (hr:RF r) (J:Tm×Int->OS S):mz k t i r J=J (tE (dQ i r t)):=by
 have l2:=hr.len
 have hdp:=ht.dep
 simp only [mz,ap hk.fu,aO,Bf,jo ht.ok (ht.fd hk) (show ah t<1099511627776 by omega),ht.2,aix hk.fu,vr hk.fu hr.2 hr.lt,hr.right,decide_eq_true hi,vq hk.fu hr.2 (show r.length<1073741824 by omega) (show aR i by unfold aR;omega) (show aR 1 by unfold aR;omega),FS,FT,FU,FR]
 rw [show ((0:Int)==0)=true from rfl,dT,ae,ae,ae,ae]
 rw [mh _ J]
 unfold dQ
 rw [dC]
 by_cases h0:(cm r i 1).2=0
 ·have hs:=lj h0
  rw [fc,decide_eq_true h0,dT,ae,qN h0,dz,agU hi hs t ht.ok ht.rows _ (ht.fd hk) (by omega) (by omega)]
  refine aq (zg (α:=OS S) (β:=Unit) _ (fun e he=>qQ nX nX t he) (fun x=>iE k x 0 i fun r6=>J (r6.1,r6.2)) fun e=>J (noT,e)) ?_
  have htw:=akJ (fo:=bZ i (cm r i 1).1 false) (fa:=bZ i (cm r i 1).1 true) (G:=AZ i) (fun d f g hf h=>yX hf h) (fun d f hf=>Y_ hf) t 0 ht.rows
  show _=eE (b7 (fO (bZ i (cm r i 1).1 false) (AZ i)) (fO (bZ i (cm r i 1).1 true) (AZ i)) 0 t) _ _
  rw [<-htw,dC]
  refine ic (fun x hx=> ?_) fun e _=>rfl
  have hw:=Tb (fun d f g hf h=>yX hf h) (fun d f g hf h=>yX hf h) (fun d=>Rr) t 0 x hx
  obtain ⟨w1,w2,w3,w4⟩:=hw
  obtain ⟨hox,hrx⟩:=w4 ht.ok ht.rows
  rw [Zm hi x hox hrx _ (hk.fd (by omega)) (by omega) (by omega)]
  exact mh _ J
 ·rw [fc,decide_eq_false h0,dr,al,vC h0];rfl
def In (k:Nat) (t:Tm):Prop:=OkT t/\Fd k (ah t)/\aA t<1099511627776
theorem In.dep {t:Tm} (h:In k t):ah t<1099511627776:=by have:=Lg t;have:=h.2.2;omega
theorem Fm.isIn {t:Tm} (h:Fm t) (hk:F3 k):In k t:=⟨h.ok,h.fd hk,by have:=h.siz;omega⟩
def eo:LT->Int
 |[]=>0
 |t::l=>if ck t=0 then eo l else ck t
theorem pu {l:LT} (hl: ∀t∈l,OkT t) (h:eo l=0): ∀t∈l,Fm t:=by
 induction l with
 |nil=>simp
 |cons x l ih=>
  intro t ht
  unfold eo at h
  split at h
  ·next h0=>
   rcases eb.1 ht with rfl|ht
   ·exact ⟨hl _ (by simp),h0⟩
   grind
  omega
theorem ajH (l:LT):0<=eo l/\eo l<=1000:=by
 induction l with
 |nil=>grind [eo]
 |cons x l ih=>
  unfold eo
  split<;>simp_all [GL]
theorem qE (c e:Int) (J:Int->OS S):lU k e c J=J (if c=0 then e else c):=by
 grind [lU,eJ]
theorem adJ (hk:Fu k) (J:Int->OS S) {l:LT} (hl: ∀t∈l,In k t) (hlen:l.length<1000):
  ∀ (r p:LT) (m:Nat) (b:Int),l=p++r->r.length<m->uf k J l m b (p.length:Int)=J (if b=0 then eo r else b):=by
 intro r
 induction r with
 |nil=>
  grind [aw,uf,zM,ae,eo]
 |cons x r ih=>
  intro p m b h hm
  obtain ⟨m,rfl,hm'⟩:=aw hm
  obtain ⟨e1,e2,e3,e4⟩:=bM h (by omega)
  have hx:=hl x (by grind)
  simp only [uf,zM,e1,al,e2,aV,ap hk,aO,jo hx.1 hx.2.1 hx.dep,qE,e3,ih (p++[x]) m _ e4 hm',eo]
  grind
theorem IU (hk:F3 k) {l:LT} (hl: ∀t∈l,In k t) (hlen:l.length<1000) (J:Int->OS S):rC k l J=J (eo l):=by
 simp only [rC,Jb]
 have:=adJ hk.fu J hl hlen l [] k 0 rfl (by omega)
 simp_all
def jV (r:LC) (line:Tm):Except Int Tm:=bE (dm 0 2 0 1 line) (dQ 0 r)
theorem zJ {r:LC} {t:Tm} {e:Int} (h:jV r t= .error e):0<e/\e<=1000:=by
 rcases cS h with h|⟨s,_,h⟩
 ·exact oZ t h
 ·exact vz h
theorem abR {i:Int} {r:LC} {fa:Bool} {d:Int} {f g:LC} (hf:RF f) (h:gD i r fa d f= .ok g):RF g:=by
 rw [xH] at h
 obtain ⟨m,h1,h⟩:=ar h
 injection h with h;subst h
 exact FP (yX hf h1).len
theorem Ma {i:Int} {r:LC} {fa:Bool} (d:Int):gD i r fa d []= .ok []:=by
 rw [xH,Rr,bP];rfl
theorem SS {i:Int} {r:LC} {t y:Tm} (h:dQ i r t= .ok y):Wk t y:=by
 obtain ⟨s,_,h⟩:=ar h
 grind [Tb,abR,Ma]
theorem KH {r:LC} {t y:Tm} (ht:Fm t) (h:jV r t= .ok y):OkT y/\RowsT y/\ah y<=200/\aA y<=20000:=by
 obtain ⟨s,h1,h⟩:=ar h
 have hs:=ku (by omega) ht h1
 obtain ⟨w1,w2,w3,w4⟩:=SS h
 have h4:=w4 hs.ok hs.rows
 have:=hs.dep;have:=hs.siz
 grind
section
variable {c:Int}
theorem ai7 (hc:c≠0) (hk:F3 k) (f:LC) (J:LC×Int->OS S):pL k f c J=J ([],c):=by
 simp only [pL,ap hk.fu,fE,fc,decide_eq_false hc,dr,al]
theorem Se (hc:c≠0) (hk:F3 k) (f g:LC) (J:LC×Int->OS S):pK k f g c J=J ([],c):=by
 simp only [pK,ap hk.fu,fE,fc,decide_eq_false hc,dr,al]
theorem IT (hc:c≠0) (hk:F3 k) (l:Tm) (r:LC) (J:Tm×Int->OS S):nw k l r c J=J (noT,c):=by
 simp only [nw,ap hk.fu,fE,fc,decide_eq_false hc,dr,al];rfl
theorem zb (hc:c≠0) (hk:F3 k) (l:Tm) (a b:Int) (J:Tm×Int->OS S):kg k l a b c J=J (noT,c):=by
 simp only [kg,ap hk.fu,fE,fc,decide_eq_false hc,dr,al];rfl
theorem qD (hc:c≠0) (hk:F3 k) (l:Tm) (J:Tm×Int×Int->OS S):jB k l c J=J (noT,c,c):=by
 simp only [jB,ap hk.fu,fE,fc,decide_eq_false hc,dr,al,ae];rfl
end
theorem ai6 (hk:F3 k) {f:LC} (hf:av f) (hl:f.length<1073741824) (J:LC×Int->OS S):pL k f 0 J=J (cm f 0 1):=by
 simp only [pL,ap hk.fu,fE,vq hk.fu hf hl (show aR 0 by unfold aR;omega) (show aR 1 by unfold aR;omega),qE,if_true]
 rfl
theorem aiZ (hk:F3 k) {f g:LC} (hf:av f) (hg:av g) (h1:f.length<1073741824) (h2:g.length<1073741824) (J:LC×Int->OS S):pK k f g 0 J=J (jF f g):=by
 simp only [pK,ap hk.fu,fE,aiC hk.fu hf hg h1 h2,qE,if_true]
 rfl
theorem Sq (hk:F3 k) {t:Tm} (ht:Fm t) {a b:Int} (ha:0<=a/\a<=1000000) (hb:0<=b/\b<9223372036854775808) (J:Tm×Int->OS S):kg k t a b 0 J=J (tE (ep a b t)):=by
 simp only [kg,ap hk.fu,fE,aO,IY hk ht ha hb,qE,if_true]
 rfl
theorem RV (hk:F3 k) {t:Tm} (ht:Fm t) {r:LC} (hr:RF r) (J:Tm×Int->OS S):nw k t r 0 J=J (tE (jV r t)):=by
 simp only [nw,ap hk.fu,fE,aO,R9 hk ht (show (0:Int)<=1/\(1:Int)<=24 by omega) (show (0:Int)<=2/\(2:Int)<9223372036854775808 by omega),qE,if_true]
 rw [show ((0:Int)==0)=true from rfl,dT,ae,mh _ J]
 unfold jV
 rw [dC]
 cases hx:dm 0 2 0 1 t with
 |error e=>
  have:=oZ t hx
  show ac (!(e==0)) (J (noT,e)) _=_
  rw [fc,decide_eq_false (by omega),dr,al];rfl
 |ok y=>
  have hy:=ku (by omega) ht hx
  show ac (!((0:Int)==0)) _ (mz k y 0 r fun r5=>J (r5.1,if (0:Int)=0 then r5.2 else 0))=_
  simp_all [ae,IR,dz,mh]
theorem R3 (hk:F3 k) {t:Tm} (ht:In k t) (J:Tm×Int×Int->OS S):jB k t 0 J=J (if ck t=0 then (t,0,0) else (noT,ck t,ck t)):=by
 simp only [jB,ap hk.fu,fE,aO,jo ht.1 ht.2.1 ht.dep,qE,if_true]
 rw [show ((0:Int)==0)=true from rfl,al,fc]
 by_cases h0:ck t=0
 ·grind [ae]
 ·rw [decide_eq_false h0,if_neg h0,dr,al];rfl
def mr (line:Tm) (phi:LC) (a:Tm) (en:Cl) (r:LC):Except Int Tm:=
 bE (eM (cm phi 0 1)) fun f1=>bE (eM (jF f1 [en])) fun f=>bE (jV r line) fun l=>bE (ep 0 1 a) fun a'=> .ok (.mk 14 0 au f [l,a'] [])
def jD (x:Except Int Tm):Except Int Tm:=bE x fun t=>if ck t=0 then .ok t else .error (ck t)
def fz (line:Tm) (phi:LC) (a:Tm) (en:Cl) (r:LC):Except Int Tm:=
 if eo [line,a]=0 then if bV phi then jD (mr line phi a en r) else .error 2 else .error (eo [line,a])
theorem acC (f g:LC):EN (jF f g).2:=by
 grind [jF,CH,oE]
theorem MA {f g:LC} (hf:av f) (hg:av g) (h:(jF f g).2=0):RFa (jF f g).1:=by
 grind [jF,CI,lz]
theorem SV {z:LC×Int} (hz:EN z.2) {e:Int} (h:eM z= .error e):0<e/\e<=1000:=by
 grind [Ei,EN]
theorem X1 {line:Tm} {phi:LC} {a:Tm} {en:Cl} {r:LC} {e:Int} (h:mr line phi a en r= .error e):0<e/\e<=1000:=by
 rcases cS h with h|⟨_,_,h⟩
 ·exact SV (CV _ _ _) h
 rcases cS h with h|⟨_,_,h⟩
 ·exact SV (acC _ _) h
 rcases cS h with h|⟨_,_,h⟩
 ·exact zJ h
 rcases cS h with h|⟨_,_,h⟩
 ·exact na h
 simp_all
theorem zG (hk:F3 k) {line:Tm} {phi:LC} {a:Tm} {en:Cl} {r:LC} (hl:Fm line) (ha:Fm a) (hp:RF phi) (he:cO en) {t:Tm} (h:mr line phi a en r= .ok t):In k t/\t.kind=14:=by
 obtain ⟨f1,h1,h⟩:=ar h
 obtain ⟨f,h2,h⟩:=ar h
 obtain ⟨l,h3,h⟩:=ar h
 obtain ⟨a',h4,h⟩:=ar h
 injection h with h;subst h
 obtain ⟨g1,rfl⟩:=j7 h1
 obtain ⟨g2,rfl⟩:=j7 h2
 have hf1:=lj g1
 have hf:=(MA hf1.2 (fun c hc=>by grind) g2).1
 obtain ⟨l1,l2,l3,l4⟩:=KH hl h3
 have ha':=pA (by omega) ha h4
 have:=hf.len;have:=ha'.dep;have:=ha'.siz
 refine ⟨⟨?_,hk.fd ?_, ?_⟩,rfl⟩
 ·rw [OkT,aU,aU,aU,a_]
  refine ⟨⟨by unfold aR;omega,by unfold aR;omega,by simp,hf.2,by omega,by simp,by simp⟩,⟨l1,ha'.ok,trivial⟩,trivial⟩
 all_goals grind [ah,az,aN,aA,ax,aM]
theorem RU (hk:F3 k) {line a:Tm} {phi r:LC} {en:Cl} (hl:In k line) (ha:In k a) (hp:av phi) (hpl:phi.length<1073741824) (he:cO en) (hr:RF r) (J:Tm×Int->OS S):wM k line phi a en r J=J (tE (fz line phi a en r)):=by
 have hin: ∀t∈[line,a],In k t:=fun t ht=>by
  grind
 have hen:av [en]:=fun c hc=>by grind
 have bad: ∀c:Int,c≠0->(pL k phi c fun r4=>pK k r4.1 [en] r4.2 fun r5=>nw k line r r5.2 fun r6=>kg k a 0 1 r6.2 fun r7=>
   fF k 14 [r6.1,r7.1] fun r8=>jB k (Tm.mk r8.1 r8.2.1 r8.2.2.1 r5.1 r8.2.2.2 []) r7.2 fun r9=>J (r9.1,r9.2.1))=J (noT,c):=by
  simp_all [fF,ai7,Se,IT,zb,qD]
 simp only [wM,ap hk.fu,aO,IU hk hin (by simp),vt hk.fu hp (show phi.length<2147483648 by omega),qE]
 unfold fz
 by_cases h0:eo [line,a]=0
 ·simp only [h0,if_true]
  have hfm:=pu (fun t ht=>(hin t ht).1) h0
  have hl':=hfm line (by simp)
  have ha':=hfm a (by simp)
  cases hph:bV phi with
  |false=>
   rw [dr,al,if_neg (show ¬ (false=true) by decide)]
   exact bad 2 (by decide)
  |true=>
   have hrf:=(lz hp).1 hph
   rw [dT,ae,if_pos (show true=true from rfl),ai6 hk hp hpl,mh _ J]
   unfold jD
   rw [dC]
   have hal: ∀t,mr line phi a en r= .ok t->In k t:=fun t h=>(zG hk hl' ha' hrf.1 he h).1
   revert hal
   unfold mr
   intro hal
   by_cases h1:(cm phi 0 1).2=0
   ·have hf1:=lj h1
    have hlen1:=hf1.len
    rw [qN h1,bP] at hal ⊢
    rw [h1,aiZ hk hf1.2 hen (by omega) (by simp)]
    by_cases h2:(jF (cm phi 0 1).1 [en]).2=0
    ·rw [qN h2,bP] at hal ⊢
     rw [h2,RV hk hl' hr]
     cases h3:jV r line with
     |error e=>
      have hc:=(zJ h3).1
      show kg k a 0 1 e _=J (noT,e)
      grind [fF,zb,qD]
     |ok l=>
      rw [h3,bP] at hal
      show kg k a 0 1 0 _=_
      rw [Sq hk ha' (by omega) (by omega),bP]
      cases h4:ep 0 1 a with
      |error e=>
       have hc:=(na h4).1
       show fF k 14 _ _=J (noT,e)
       simp only [fF]
       show jB k _ e _=_
       grind [qD]
      |ok a'=>
       rw [h4,bP] at hal
       show fF k 14 _ _=_
       simp only [fF]
       show jB k (Tm.mk 14 0 au (jF (cm phi 0 1).1 [en]).1 [l,a'] []) 0 _=_
       rw [R3 hk (hal _ rfl),bP,dz]
       by_cases h5:ck (Tm.mk 14 0 au (jF (cm phi 0 1).1 [en]).1 [l,a'] [])=0
       ·rw [if_pos h5,if_pos h5];rfl
       ·rw [if_neg h5,if_neg h5];rfl
    ·rw [vC h2]
     show _=J (noT,(jF (cm phi 0 1).1 [en]).2)
     grind [fF,IT,zb,qD]
   ·rw [vC h1]
    show _=J (noT,(cm phi 0 1).2)
    simp_all [fF,Se,IT,zb,qD]
 ·simp only [if_neg h0]
  cases bV phi with
  |false=>rw [dr,al];exact bad _ h0
  |true=>rw [dT,ae];exact bad _ h0
end Go.Proofs.YtgajalidbabccaaGreatDoor
namespace Go.Proofs.YtgajalidbabccaaGreatDoor
open Go PI
set_option maxRecDepth 100000

set_option maxRecDepth 20000
variable {S:Type} {k:Nat}
theorem RZ {l:LC} (hl:l.length<1073741824) (J:LC->OS S):u4 l J=J l:=by
 grind [u4,cX]
section
variable {hd:Tm->(Tm->OS S)->OS S}
theorem adV (hk:Fu k) (J:LT->OS S) {l:LT} (hQ: ∀y∈l,∀g,hd y g=g y) (hl:l.length<1073741824):
  ∀ (r p:LT) (m:Nat),l=p++r->r.length<m->uL hd k J l m p (p.length:Int)=J l:=by
 intro r
 induction r with
 |nil=>
  grind [aw,uL,AE,ae]
 |cons y r ih=>
  intro p m h hm
  obtain ⟨m,rfl,hm'⟩:=aw hm
  obtain ⟨e1,e2,e3,e4⟩:=bM h (by omega)
  grind [uL,AE,al,aO,cX]
theorem R0 (hk:Fu k) {l:LT} (hQ: ∀y∈l,∀g,hd y g=g y) (hl:l.length<1073741824) (J:LT->OS S):xh hd k l J=J l:=by
 simp only [xh,JP]
 exact adV hk J hQ hl l [] k rfl (by omega)
theorem adW (hk:Fu k) (J:Tm->OS S) {t:Tm} (ht:OkT t) (hQ: ∀b∈t.sys,∀y∈b.kids,∀g,hd y g=g y) (r1:LC) (r2:LT):
  ∀ (r p:LB) (m:Nat),t.sys=p++r->r.length<m->uK hd k J t r1 r2 m p (p.length:Int)=J (.mk t.kind t.n t.name r1 r2 t.sys):=by
 obtain ⟨o1,o2,o3,o4,o5,o6,o7⟩:=ht.no
 intro r
 induction r with
 |nil=>
  grind [aw,uK,AD,ae]
 |cons y r ih=>
  intro p m h hm
  obtain ⟨m,rfl,hm'⟩:=aw hm
  obtain ⟨e1,e2,e3,e4⟩:=bM h (by omega)
  have hy:y∈t.sys:=by grind
  have hb:=(ht.bi hy).1
  have hlen:p.length+r.length+1=t.sys.length:=by grind
  simp only [uK,AD,e1,al,e2,aV,aO,e3,RZ hb.2.1,ap hk,R0 hk (hQ y hy) hb.2.2]
  rw [cX (by grind)]
  have:=ih (p++[y]) m e4 hm'
  omega
end
theorem pk (t:Tm):OkT t-> ∀ {k:Nat} (J:Tm->OS S),Fd k (ah t)->fH k t J=J t:=by
 induction t using jr with
 |h t ih1 ih2=>
  intro ht k J hk
  obtain ⟨q,rfl,hq,hf⟩:=hk.pos' (h_ t)
  obtain ⟨o1,o2,o3,o4,o5,o6,o7⟩:=ht.no
  simp only [fH,JO,RZ o5,ap hq,R0 hq (fun y hy g=>ih1 y hy (ht.ki hy) g (hf _ (ga hy))) o6]
  have:=adW hq J ht (fun b hb y hy g=>ih2 b hb y hy ((ht.bi hb).2 y hy) g (hf _ (gA hb hy))) t.r t.kids t.sys [] q rfl (by omega)
  refine aq this ?_
  cases t;rfl
theorem agp {v d d':Int} (h:24<=d) (h':24<=d') (t:Tm):dL v d t=dL v d' t:=by
 have hb: ∀kd,bR kd d=bR kd d':=fun kd=>by grind [bR,CZ]
 simp_all [dL,CZ]
theorem nh (t:Tm): ∀ {v d d':Int},24<=d->24<=d'->aE false v d t=aE false v d' t:=by
 induction t using jr with
 |h t ih1 ih2=>
  intro v d d' h h'
  rw [zF,zF,agp h h']
  have hK: ∀ (l:LT) (i:Nat),(∀x∈l,x∈t.kids)->bO false v d t.kind i l=bO false v d' t.kind i l:=by
   intro l
   induction l<;>grind [bO,bL]
  grind [rq,aS]
theorem yV:RF [⟨3,0⟩]:=jN ⟨⟨by decide,by decide⟩,by decide,by decide⟩
theorem IB:RF [⟨0,1⟩,⟨2,0⟩]:=by
 refine ⟨by rfl,fun c hc=> ?_⟩
 simp only [eb,List.not_mem_nil,or_false] at hc
 rcases hc with rfl|rfl
 ·exact ⟨⟨by decide,by decide⟩,by decide,by decide⟩
 ·exact ⟨⟨by decide,by decide⟩,by decide,by decide⟩
theorem afQ:cO ⟨0,1⟩:=⟨⟨by decide,by decide⟩,by decide,by decide⟩
theorem OE:cO ⟨1,0⟩:=⟨⟨by decide,by decide⟩,by decide,by decide⟩
theorem ail (hk:F3 k) {line a:Tm} {phi:LC} (hl:In k line) (ha:In k a) (hp:av phi) (hpl:phi.length<1073741824) (J:Tm×Int->OS S):A5 k line phi a J=J (tE (fz line phi a ⟨0,1⟩ [⟨3,0⟩])):=by
 grind [A5,aO,ap,RU,afQ,yV]
theorem aib (hk:F3 k) {line a:Tm} {phi:LC} (hl:In k line) (ha:In k a) (hp:av phi) (hpl:phi.length<1073741824) (J:Tm×Int->OS S):A2 k line phi a J=J (tE (fz line phi a ⟨1,0⟩ [⟨0,1⟩,⟨2,0⟩])):=by
 grind [A2,aO,ap,RU,OE,IB]
theorem Ov:OkT noT:=by
 unfold noT
 rw [OkT,aU,a_]
 exact ⟨⟨by unfold aR;omega,by unfold aR;omega,by simp,fun c hc=>(by cases hc),by simp,by simp,by simp⟩,trivial,trivial⟩
theorem nP (hk:F3 k):In k noT:=⟨Ov,hk.fd (by grind [noT,ah,az,aN]),by grind [noT,aA,ax,aM]⟩
theorem vu (t:Tm):aA t=1+ax t.kids+aM t.sys:=by cases t;rfl
def pB (most w:Int) (n:Nat):Prop:=1<=w/\w<=2*most+1/\(w<=most->(n:Int)<=w)
def Mo (most:Int):Prop:=0<=most/\most<=1000
section
variable {hd:Tm->Int->(Int->OS S)->OS S} {t:Tm}
theorem adP (hk:Fu k) (J:Int->OS S) (rec1:Int->Int->OS S) {v most:Int} (hm0:Mo most) {x:Br Tm} (hv:ao t.sys v=some x) (hQ: ∀y∈x.kids,∀n,Mo n-> ∀g,∃w,hd y n g=g w/\pB n w (aA y)) (hl:x.kids.length<1073741824):
  ∀ (r p:LT) (m:Nat) (a:Int),x.kids=p++r->r.length<m->1<=a->a<=2*most+1-> ∃w,oU hd k J rec1 t most v m a (p.length:Int)=rec1 w (af .i64 (v+1))/\a<=w/\w<=2*most+1/\(w<=most->a+(ax r:Int)<=w):=by
 obtain ⟨hm1,hm2⟩:=hm0
 intro r
 induction r with
 |nil=>
  intro p m a h hm ha ha'
  obtain ⟨m,rfl,hm'⟩:=aw hm
  exact ⟨a,by grind [oU,Aw,ae],eD _,ha',fun _=>by rw [ax];simp⟩
 |cons y r ih=>
  intro p m a h hm ha ha'
  obtain ⟨m,rfl,hm'⟩:=aw hm
  obtain ⟨e1,e2,e3,e4⟩:=bM h (by omega)
  simp only [oU,Aw,hv,e1,al,e2,aV,aO,e3]
  by_cases hc:a<=most
  ·rw [decide_eq_true hc,al,c5 (show-9223372036854775808<=most-a by omega) (by omega)]
   obtain ⟨w,hw,w1,w2,w3⟩:=hQ y (by grind) (most-a) ⟨by omega,by omega⟩ (fun r8=>oU hd k J rec1 t most v m (af .i64 (a+r8)) (((p++[y]).length:Nat):Int))
   rw [hw,c5 (show-9223372036854775808<=a+w by omega) (by omega)]
   obtain ⟨u,hu,u1,u2,u3⟩:=ih (p++[y]) m (a+w) e4 hm' (by omega) (by omega)
   exact ⟨u,hu,by omega,u2,fun hle=>by grind [ax]⟩
  grind [ae]
theorem adO (hk:Fu k) (J:Int->OS S) {most:Int} (hm0:Mo most) (hQ: ∀b∈t.sys,∀y∈b.kids,∀n,Mo n-> ∀g,∃w,hd y n g=g w/\pB n w (aA y)) (ht:OkT t):
  ∀ (r p:LB) (m:Nat) (a:Int),t.sys=p++r->r.length<m->1<=a->a<=2*most+1-> ∃w,nL hd k J t most m a (p.length:Int)=J w/\a<=w/\w<=2*most+1/\(w<=most->a+(aM r:Int)<=w):=by
 obtain ⟨o1,o2,o3,o4,o5,o6,o7⟩:=ht.no
 have hm1:=hm0.1
 have hm2:=hm0.2
 intro r
 induction r with
 |nil=>
  intro p m a h hm ha ha'
  obtain ⟨m,rfl,hm'⟩:=aw hm
  exact ⟨a,by grind [nL,wk,ae],eD _,ha',fun _=>by rw [aM];simp⟩
 |cons x r ih=>
  intro p m a h hm ha ha'
  obtain ⟨m,rfl,hm'⟩:=aw hm
  obtain ⟨e1,e2,e3,e4⟩:=bM h (by omega)
  have hx:x∈t.sys:=by grind
  have hb:=(ht.bi hx).1
  simp only [nL,wk,e1,al,e2,aV,e3]
  by_cases hc:a<=most
  ·rw [decide_eq_true hc,al]
   by_cases hf:((x.face.length:Nat):Int)>most
   ·grind [al,c5]
   ·rw [decide_eq_false hf,ae,c5 (show-9223372036854775808<=a+1 by omega) (by omega),c5 (show-9223372036854775808<=a+1+((x.face.length:Nat):Int) by omega) (by omega)]
    obtain ⟨w,hw,w1,w2,w3⟩:=adP (t:=t) (most:=most) hk J (nL hd k J t most m) hm0 e2 (hQ x hx) hb.2.2 x.kids [] k (a+1+((x.face.length:Nat):Int)) rfl (by omega) (by omega) (by omega)
    have hw:oU hd k J (nL hd k J t most m) t most (p.length:Int) k (a+1+((x.face.length:Nat):Int)) 0=_:=hw
    rw [hw,e3]
    obtain ⟨u,hu,u1,u2,u3⟩:=ih (p++[x]) m w e4 hm' (by omega) w2
    exact ⟨u,hu,by omega,u2,fun hle=>by grind [aM,pm]⟩
  grind [ae]
theorem adN (hk:Fu k) (J:Int->OS S) {most:Int} (hm0:Mo most) (hQ: ∀y∈t.kids,∀n,Mo n-> ∀g,∃w,hd y n g=g w/\pB n w (aA y)) (hQ': ∀b∈t.sys,∀y∈b.kids,∀n,Mo n-> ∀g,∃w,hd y n g=g w/\pB n w (aA y)) (ht:OkT t):
  ∀ (r p:LT) (m:Nat) (a:Int),t.kids=p++r->r.length<m->1<=a->a<=2*most+1-> ∃w,sA hd k J t most m a (p.length:Int)=J w/\a<=w/\w<=2*most+1/\(w<=most->a+(ax r:Int)+(aM t.sys:Int)<=w):=by
 obtain ⟨o1,o2,o3,o4,o5,o6,o7⟩:=ht.no
 have hm1:=hm0.1
 have hm2:=hm0.2
 intro r
 have hs:=fun a=>adO (most:=most) hk J hm0 hQ' ht t.sys [] k a rfl (by omega)
 induction r with
 |nil=>
  grind [aw,sA,wj,ae,ax]
 |cons y r ih=>
  intro p m a h hm ha ha'
  obtain ⟨m,rfl,hm'⟩:=aw hm
  obtain ⟨e1,e2,e3,e4⟩:=bM h (by omega)
  simp only [sA,wj,e1,al,e2,aV,aO,e3]
  by_cases hc:a<=most
  ·rw [decide_eq_true hc,al,c5 (show-9223372036854775808<=most-a by omega) (by omega)]
   obtain ⟨w,hw,w1,w2,w3⟩:=hQ y (by grind) (most-a) ⟨by omega,by omega⟩ (fun r2=>sA hd k J t most m (af .i64 (a+r2)) (((p++[y]).length:Nat):Int))
   rw [hw,c5 (show-9223372036854775808<=a+w by omega) (by omega)]
   obtain ⟨u,hu,u1,u2,u3⟩:=ih (p++[y]) m (a+w) e4 hm' (by omega) (by omega)
   exact ⟨u,hu,by omega,u2,fun hle=>by grind [ax]⟩
  grind [ae]
end
theorem ai4 (t:Tm):OkT t-> ∀ {k:Nat} (most:Int),Mo most-> ∀ (J:Int->OS S),Fd k (ah t)-> ∃w,lZ k t most J=J w/\pB most w (aA t):=by
 induction t using jr with
 |h t ih1 ih2=>
  intro ht k most hm0 J hk
  have hm1:=hm0.1
  have hm2:=hm0.2
  obtain ⟨q,rfl,hq,hf⟩:=hk.pos' (h_ t)
  obtain ⟨o1,o2,o3,o4,o5,o6,o7⟩:=ht.no
  have hQ: ∀y∈t.kids,∀n,Mo n-> ∀ (g:Int->OS S),∃w,lZ q y n g=g w/\pB n w (aA y):=fun y hy n hn g=>ih1 y hy (ht.ki hy) n hn g (hf _ (ga hy))
  have hQ': ∀b∈t.sys,∀y∈b.kids,∀n,Mo n-> ∀ (g:Int->OS S),∃w,lZ q y n g=g w/\pB n w (aA y):=fun b hb y hy n hn g=>ih2 b hb y hy ((ht.bi hb).2 y hy) n hn g (hf _ (gA hb hy))
  simp only [lZ,JI]
  have out: ∃w,J (af .i64 (most+1))=J w/\pB most w (aA t):=⟨most+1,by grind [c5],by omega,by omega,fun h=>by omega⟩
  by_cases hr:((t.r.length:Nat):Int)>most
  ·grind [al]
  ·rw [decide_eq_false hr,ae]
   by_cases hn:((t.name.size:Nat):Int)>most
   ·grind [al]
   ·rw [decide_eq_false hn,ae,c5 (show-9223372036854775808<=1+((t.r.length:Nat):Int) by omega) (by omega),c5 (show-9223372036854775808<=1+((t.r.length:Nat):Int)+((t.name.size:Nat):Int) by omega) (by omega)]
    obtain ⟨w,hw,w1,w2,w3⟩:=adN hq J hm0 hQ hQ' ht t.kids [] q (1+((t.r.length:Nat):Int)+((t.name.size:Nat):Int)) rfl (by omega) (by omega) (by omega)
    exact ⟨w,hw,by omega,w2,fun hle=>by grind [vu]⟩
def aF (kd:Int) (l:LT):Tm:= .mk kd 0 au [] l []
def vN (n:Int):Tm:= .mk 1 n au [] [] []
def fX (c a b:Int) (t:Tm):Tm×Int:=if c=0 then tE (ep a b t) else (noT,c)
def n2 (p:Tm×Int):Except Int Tm:=if p.2=0 then .ok p.1 else .error p.2
theorem vD {c a b:Int} {t:Tm} (h:c≠0):fX c a b t=(noT,c):=if_neg h
theorem Ka {c a b:Int} {t:Tm} (h:(fX c a b t).2=0):c=0:=by
 grind [vD]
theorem J_ (a b:Int) (t:Tm):fX 0 a b t=tE (ep a b t):=rfl
theorem I2 (hk:F3 k) {c:Int} {t:Tm} (h:c=0->Fm t) {a b:Int} (ha:0<=a/\a<=1000000) (hb:0<=b/\b<9223372036854775808) (J:Tm×Int->OS S):kg k t a b c J=J (fX c a b t):=by
 by_cases hc:c=0
 ·subst hc;exact Sq hk (h rfl) ha hb J
 grind [zb,vD]
theorem R2 (hk:F3 k) {t:Tm} {c:Int} (h:c=0->In k t) (J:Tm×Int->OS S):(jB k t c fun r=>J (r.1,r.2.1))=J (tE (jD (n2 (t,c)))):=by
 by_cases hc:c=0
 ·subst hc
  rw [R3 hk (h rfl)]
  show _=J (tE (jD (.ok t)))
  unfold jD
  rw [bP]
  by_cases h0:ck t=0
  ·rw [if_pos h0,if_pos h0];rfl
  ·rw [if_neg h0,if_neg h0];rfl
 ·rw [qD hc hk]
  show _=J (tE (jD (if c=0 then _ else _)))
  rw [if_neg hc];rfl
def pY (c:Int) (t a f y:Tm):Tm×Int:=
 (aF 7 [t,aF 11 [(fX c 1 1 a).1,(fX (fX c 1 1 a).2 1 0 y).1,aF 6 [(fX (fX (fX c 1 1 a).2 1 0 y).2 1 0 f).1,vN 0]]],(fX (fX (fX c 1 1 a).2 1 0 y).2 1 0 f).2)
def ie (t a f y:Tm):Except Int Tm:=bE (ep 1 1 a) fun a'=>bE (ep 1 0 y) fun y'=>bE (ep 1 0 f) fun f'=> .ok (aF 7 [t,aF 11 [a',y',aF 6 [f',vN 0]]])
theorem LZ {c:Int} (h:c≠0) (t a f y:Tm):(pY c t a f y).2=c:=by
 grind [pY,vD]
theorem L0 (t a f y:Tm):n2 (pY 0 t a f y)=ie t a f y:=by
 unfold pY ie
 rw [J_]
 cases h1:ep 1 1 a with
 |error e=>
  have he:e≠0:=by have:=na h1;omega
  show n2 (_,(fX (fX e 1 0 y).2 1 0 f).2)=_
  rw [vD he,vD he,zL];exact if_neg he
 |ok a'=>
  rw [bP]
  show n2 (aF 7 [t,aF 11 [a',(fX 0 1 0 y).1,aF 6 [(fX (fX 0 1 0 y).2 1 0 f).1,vN 0]]],(fX (fX 0 1 0 y).2 1 0 f).2)=_
  rw [J_]
  cases h2:ep 1 0 y with
  |error e=>
   have he:e≠0:=by have:=na h2;omega
   show n2 (_,(fX e 1 0 f).2)=_
   rw [vD he,zL];exact if_neg he
  |ok y'=>
   rw [bP]
   show n2 (aF 7 [t,aF 11 [a',y',aF 6 [(fX 0 1 0 f).1,vN 0]]],(fX 0 1 0 f).2)=_
   rw [J_]
   cases h3:ep 1 0 f with
   |error e=>
    have he:e≠0:=by have:=na h3;omega
    rw [zL];exact if_neg he
   |ok f'=>rfl
theorem aiJ (hk:F3 k) {c:Int} {t a f y:Tm} (ha:c=0->Fm a) (hf:c=0->Fm f) (hy:c=0->Fm y) (J:Int×Int×BA×LT×Int->OS S):
  A7 k t a f y c J=J (7,0,au,(pY c t a f y).1.kids,(pY c t a f y).2):=by
 simp only [A7,ap hk.fu,aO,I2 hk ha (show (0:Int)<=1/\(1:Int)<=1000000 by omega) (show (0:Int)<=1/\(1:Int)<9223372036854775808 by omega),
  I2 hk (fun h=>hy (Ka h)) (show (0:Int)<=1/\(1:Int)<=1000000 by omega) (show (0:Int)<=0/\(0:Int)<9223372036854775808 by omega),
  I2 hk (fun h=>hf (Ka (Ka h))) (show (0:Int)<=1/\(1:Int)<=1000000 by omega) (show (0:Int)<=0/\(0:Int)<9223372036854775808 by omega),FQ,fF]
 rfl
theorem GI {t a f y:Tm} {e:Int} (h:ie t a f y= .error e):0<e/\e<=1000:=by
 rcases cS h with h|⟨_,_,h⟩
 ·exact na h
 rcases cS h with h|⟨_,_,h⟩
 ·exact na h
 rcases cS h with h|⟨_,_,h⟩
 ·exact na h
 simp_all
theorem OF (n:Int) (h:0<=n/\n<=10):OkT (vN n):=by
 unfold vN
 rw [OkT,aU,a_]
 exact ⟨⟨by unfold aR;omega,by unfold aR;omega,by simp,fun c hc=>(by cases hc),by simp,by simp,by simp⟩,trivial,trivial⟩
theorem fm_v0:Fm (vN 0):=⟨OF 0 (by omega),by rfl⟩
theorem fm_v1:Fm (vN 1):=⟨OF 1 (by omega),by rfl⟩
theorem HM {kd:Int} (hkd:0<=kd/\kd<=28) {l:LT} (hl:l.length<10) (h: ∀x∈l,OkT x):OkT (aF kd l):=by
 unfold aF
 rw [OkT,okK_iff,a_]
 exact ⟨⟨by unfold aR;omega,by unfold aR;omega,by simp,fun c hc=>(by cases hc),by simp,by omega,by simp⟩,h,trivial⟩
theorem KD {kd d:Int} (hd:24<=d) {l:LT} (ho:dL (-1) 24 (aF kd l)=true) (h: ∀x∈l,aE false (-1) 24 x=true):aE false (-1) d (aF kd l)=true:=by
 rw [nh (aF kd l) hd (show (24:Int)<=24 by omega),zF,ho]
 have hK: ∀ (r:LT) (i:Nat),(∀x∈r,aE false (-1) 24 x=true)->bO false (-1) 24 kd i r=true:=by
  intro r
  induction r with
  |nil=>intro i _;rw [bO]
  |cons x r ih=>
   intro i hr
   have hb:=iz kd i
   rw [bO,ih _ fun y hy=>hr y (by simp [hy])]
   have hv:cq (-1) (b8 kd i)= -1:=rfl
   rw [hv,nh x (show (24:Int)<=24+bL kd i by omega) (show (24:Int)<=24 by omega),hr x (by simp)];rfl
 show (!(false&&_)&&(true&&(bO false (-1) 24 kd 0 l&&aY false (-1) 24 kd [])))=true
 grind [aY]
def Fd2 (n m:Nat) (t:Tm):Prop:=OkT t/\aE false (-1) 24 t=true/\ah t<=n/\aA t<=m
theorem Fd2.fm {n m:Nat} {t:Tm} (h:Fd2 n m t) (hn:n<=200) (hm:m<=20000):Fm t:=⟨h.1,rM (by have:=h.2.2.1;omega) (by have:=h.2.2.2;omega) h.2.1⟩
theorem Fd2.isIn {n m:Nat} {t:Tm} (h:Fd2 n m t) (hk:F3 k) (hn:n<=1000) (hm:m<=1000000):In k t:=⟨h.1,hk.fd (by have:=h.2.2.1;omega),by have:=h.2.2.2;omega⟩
theorem Fm.f2 {t:Tm} (h:Fm t):Fd2 200 20000 t:=⟨h.1,(iX h.2).2.2,(iX h.2).1,(iX h.2).2.1⟩
theorem Fd2.mono {n m n' m':Nat} {t:Tm} (h:Fd2 n m t) (hn:n<=n') (hm:m<=m'):Fd2 n' m' t:=⟨h.1,h.2.1,by have:=h.2.2.1;omega,by have:=h.2.2.2;omega⟩
theorem Fd2.up {n m:Nat} {t t':Tm} (h:Fd2 n m t) {a b:Int} (ha:0<=a/\a<=1000000000) (hl:ep a b t= .ok t'):Fd2 n m t':=by
 obtain ⟨u,h1,h2⟩:=ar hl
 obtain ⟨p1,p2,p3,p4⟩:=xU ha.1 ha.2 t 0 0 u h1
 obtain ⟨q1,q2,q3,q4⟩:=xU (by omega) (by omega) u 0 0 t' h2
 have w:=p4 h.1
 have w2:=q4 w.1
 have ho:=w.2.2 24 24 (by omega) (by omega) h.2.1
 exact ⟨w2.1,w2.2.2 24 24 (by omega) (by omega) ho,by have:=h.2.2.1;omega,by have:=h.2.2.2;omega⟩
theorem LX {kd:Int} (hkd:0<=kd/\kd<=28) {n m:Nat} {a b:Tm} (ho:dL (-1) 24 (aF kd [a,b])=true) (ha:Fd2 n m a) (hb:Fd2 n m b):Fd2 (n+1) (2*m+1) (aF kd [a,b]):=by
 grind [Fd2,HM,KD,aF,ah,az,aN,aA,ax,aM]
theorem abA {kd:Int} (hkd:0<=kd/\kd<=28) {n m:Nat} {a b c:Tm} (ho:dL (-1) 24 (aF kd [a,b,c])=true) (ha:Fd2 n m a) (hb:Fd2 n m b) (hc:Fd2 n m c):Fd2 (n+1) (3*m+1) (aF kd [a,b,c]):=by
 grind [Fd2,HM,KD,aF,ah,az,aN,aA,ax,aM]
theorem abP {n m:Nat} (hn:1<=n) (hm:1<=m) {i:Int} (hi:i=0\/i=1):Fd2 n m (vN i):=by
 have:Fd2 1 1 (vN i):=by
  rcases hi with rfl|rfl
  ·exact ⟨fm_v0.1,by rfl,by show 1<=1;omega,by show 1<=1;omega⟩
  ·exact ⟨fm_v1.1,by rfl,by show 1<=1;omega,by show 1<=1;omega⟩
 exact this.mono hn hm
theorem L3 {n m:Nat} (hn:1<=n) (hm:1<=m) {t a f y x:Tm} (ht:Fd2 n m t) (ha:Fd2 n m a) (hf:Fd2 n m f) (hy:Fd2 n m y) (h:ie t a f y= .ok x):Fd2 (n+3) (12*m+9) x:=by
 obtain ⟨a',h1,h⟩:=ar h
 obtain ⟨y',h2,h⟩:=ar h
 obtain ⟨f',h3,h⟩:=ar h
 injection h with h;subst h
 have c1:=LX (kd:=6) (by omega) (by rfl) (hf.up (by omega) h3) (abP hn hm (.inl rfl))
 have c2:=abA (kd:=11) (by omega) (by rfl) ((ha.up (by omega) h1).mono (Nat.le_succ n) (show m<=2*m+1 by omega)) ((hy.up (by omega) h2).mono (Nat.le_succ n) (show m<=2*m+1 by omega)) c1
 exact (LX (kd:=7) (by omega) (by rfl) (ht.mono (show n<=n+1+1 by omega) (show m<=3*(2*m+1)+1 by omega)) c2).mono (by omega) (by omega)
mutual
def ee (n:Int):Tm->Nat
 | .mk kd m _ _ ks sys=>(if kd=1/\m=n then 1 else 0)+(jz n kd 0 ks+iC n sys)
def jz (n kd:Int) (i:Nat):LT->Nat
 |[]=>0
 |t::l=>ee (n+b8 kd i) t+jz n kd (i+1) l
def iC (n:Int):LB->Nat
 |[]=>0
 |b::l=>K3 n b+iC n l
def K3 (n:Int):Br Tm->Nat
 | .mk _ ks=>jA n ks
def jA (n:Int):LT->Nat
 |[]=>0
 |t::l=>ee n t+jA n l
end
mutual
def fS (n:Int) (u:Tm) (v d:Int):Tm->Except Int Tm
 | .mk kd m nm r ks sys=>if kd=1/\m=n+v then ep v d u else bE (iN n u v d kd 0 ks) fun ks'=>bE (gF n u v d kd sys) fun sys'=> .ok (.mk kd (if kd=1/\m>n+v then m-1 else m) nm r ks' sys')
def iN (n:Int) (u:Tm) (v d kd:Int) (i:Nat):LT->Except Int (LT)
 |[]=> .ok []
 |t::l=>bE (fS n u (v+b8 kd i) (d+bL kd i) t) fun t'=>bE (iN n u v d kd (i+1) l) fun l'=> .ok (t'::l')
def gF (n:Int) (u:Tm) (v d kd:Int):LB->Except Int (LB)
 |[]=> .ok []
 |b::l=>bE (yE n u v d kd b) fun b'=>bE (gF n u v d kd l) fun l'=> .ok (b'::l')
def yE (n:Int) (u:Tm) (v d kd:Int):Br Tm->Except Int (Br Tm)
 | .mk f ks=>bE (i_ n u v d kd ks) fun ks'=> .ok (.mk f ks')
def i_ (n:Int) (u:Tm) (v d kd:Int):LT->Except Int (LT)
 |[]=> .ok []
 |t::l=>bE (fS n u v (d+aS kd) t) fun t'=>bE (i_ n u v d kd l) fun l'=> .ok (t'::l')
end
def ls (n:Int) (t u:Tm):Except Int Tm:=if aA t+ee n t*(aA u-1)>20000 then .error 221 else bE (fS n u 0 0 t) fun o=>if ah o>200 then .error 62 else .ok o
def Pg (n:Int) (u x x':Tm):Prop:=OkT x'/\aE false (-1) 24 x'=true/\aA x'=aA x+ee n x*(aA u-1)/\ah x'<=ah x+ah u
abbrev zy (n:Int) (u x:Tm):Prop:= ∀ {v d:Int} {o:Tm},0<=v->0<=d->v+ah x<=1000->OkT x->aE false (-1) 24 x=true->fS n u v d x= .ok o->Pg (n+v) u x o
section
variable {n v d kd:Int} {u:Tm}
theorem agt: ∀ {l l':LT} {i:Nat},(∀x∈l,zy n u x)->0<=v->0<=d->v+az l+1<=1000->aU l->bO false (-1) 24 kd i l=true->iN n u v d kd i l= .ok l'->
  aU l'/\bO false (-1) 24 kd i l'=true/\ax l'=ax l+jz (n+v) kd i l*(aA u-1)/\az l'<=az l+ah u/\l'.length=l.length:=by
 intro l
 induction l with
 |nil=>intro l' i _ _ _ _ _ _ h;rw [iN] at h;injection h with h;subst h;rw [aU,bO,jz,ax,az];simp
 |cons t l ih=>
  intro l' i h hv hd hb ho ha hl
  rw [iN] at hl
  obtain ⟨t',e1,hl⟩:=ar hl
  obtain ⟨m,e2,hl⟩:=ar hl
  injection hl with hl;subst hl
  rw [aU] at ho
  rw [bO,ak] at ha
  rw [az] at hb
  have b1:=pG kd i;have b2:=iz kd i
  have ha1:aE false (-1) 24 t=true:=by
   have:=ha.1
   rw [zk,nh t (by omega) (eD 24)] at this;exact this
  obtain ⟨p1,p2,p3,p4⟩:=h t (by simp) (v:=v+b8 kd i) (d:=d+bL kd i) (by omega) (by omega) (by omega) ho.1 ha1 e1
  obtain ⟨q1,q2,q3,q4,q5⟩:=ih (fun x hx=>h x (by simp [hx])) hv hd (by omega) ho.2 ha.2 e2
  rw [aU,bO,jz,ax,ax,az,az,dv,dv]
  refine ⟨⟨p1,q1⟩, ?_, ?_,by omega,by omega⟩
  ·rw [ak,zk,nh t' (show (24:Int)<=24+bL kd i by omega) (eD 24)];exact ⟨p2,q2⟩
  ·rw [p3,q3,Nat.add_mul,Int.add_assoc];omega
theorem agu: ∀ {l l':LT},(∀x∈l,zy n u x)->0<=v->0<=d->v+az l+1<=1000->aU l->cQ false (-1) 24 kd l=true->i_ n u v d kd l= .ok l'->
  aU l'/\cQ false (-1) 24 kd l'=true/\ax l'=ax l+jA (n+v) l*(aA u-1)/\az l'<=az l+ah u/\l'.length=l.length:=by
 intro l
 induction l with
 |nil=>intro l' _ _ _ _ _ _ h;rw [i_] at h;injection h with h;subst h;rw [aU,cQ,jA,ax,az];simp
 |cons t l ih=>
  intro l' h hv hd hb ho ha hl
  rw [i_] at hl
  obtain ⟨t',e1,hl⟩:=ar hl
  obtain ⟨m,e2,hl⟩:=ar hl
  injection hl with hl;subst hl
  rw [aU] at ho
  rw [cQ,ak] at ha
  rw [az] at hb
  have b2:=iZ kd
  have ha1:aE false (-1) 24 t=true:=by
   have:=ha.1
   rw [nh t (by omega) (eD 24)] at this;exact this
  obtain ⟨p1,p2,p3,p4⟩:=h t (by simp) (v:=v) (d:=d+aS kd) (by omega) (by omega) (by omega) ho.1 ha1 e1
  obtain ⟨q1,q2,q3,q4,q5⟩:=ih (fun x hx=>h x (by simp [hx])) hv hd (by omega) ho.2 ha.2 e2
  rw [aU,cQ,jA,ax,ax,az,az,dv,dv]
  refine ⟨⟨p1,q1⟩, ?_, ?_,by omega,by omega⟩
  ·rw [ak,nh t' (show (24:Int)<=24+aS kd by omega) (eD 24)];exact ⟨p2,q2⟩
  ·rw [p3,q3,Nat.add_mul];omega
theorem agv: ∀ {l l':LB},(∀b∈l,∀x∈b.kids,zy n u x)->0<=v->0<=d->v+aN l+1<=1000->a_ l->aY false (-1) 24 kd l=true->gF n u v d kd l= .ok l'->
  a_ l'/\aY false (-1) 24 kd l'=true/\aM l'=aM l+iC (n+v) l*(aA u-1)/\aN l'<=aN l+ah u/\l'.length=l.length/\l'.all (bR kd 24)=l.all (bR kd 24):=by
 intro l
 induction l with
 |nil=>intro l' _ _ _ _ _ _ h;rw [gF] at h;injection h with h;subst h;rw [a_,aY,iC,aM,aN];simp
 |cons b l ih=>
  intro l' h hv hd hb ho ha hl
  rw [gF] at hl
  obtain ⟨b',e1,hl⟩:=ar hl
  obtain ⟨m,e2,hl⟩:=ar hl
  injection hl with hl;subst hl
  obtain ⟨f,ks⟩:=b
  rw [yE] at e1
  obtain ⟨ks',e3,e1⟩:=ar e1
  injection e1 with e1;subst e1
  rw [a_,gM] at ho
  rw [aY,iQ,ak] at ha
  rw [aN,ji] at hb
  obtain ⟨q1,q2,q3,q4,q5,q6⟩:=ih (fun b hb=>h b (by simp [hb])) hv hd (by omega) ho.2 ha.2 e2
  obtain ⟨p1,p2,p3,p4,p5⟩:=agu (n:=n) (u:=u) (kd:=kd) (l:=ks) (h ⟨f,ks⟩ (by simp)) hv hd (by omega) ho.1.2 ha.1 e3
  rw [a_,gM,aY,iQ,iC,K3,aM,aM,jp,jp,aN,aN,ji,ji,dv,dv,iO,iO,q6]
  refine ⟨⟨⟨⟨ho.1.1.1,ho.1.1.2.1,by rw [p5];exact ho.1.1.2.2⟩,p1⟩,q1⟩,by rw [ak];exact ⟨p2,q2⟩, ?_,by omega,by omega, ?_⟩
  ·rw [p3,q3,Nat.add_mul];omega
  ·have:bR kd 24 ⟨f,ks'⟩=bR kd 24 ⟨f,ks⟩:=by unfold bR;simp only [p5]
   rw [this]
theorem OR (hu:Fm u) (hn:0<=n) (t:Tm):zy n u t:=by
 induction t using gi with
 |h kd m nm r ks sys ih1 ih2=>
  intro v d o hv hd hb hok ha h
  rw [fS] at h
  have hok':=hok
  rw [OkT] at hok
  rw [ah] at hb
  have ha':=ha
  rw [aE] at ha
  simp only [Bool.false_and,dr,Bool.true_and,ak] at ha
  obtain ⟨q2,q3,q4⟩:=ha
  split at h
  ·rename_i hc
   have fo:=pA (by omega) hu h
   have u1:=(Fm.f2 hu).up (by omega) h
   have hk1:ks=[]/\sys=[]:=by
    unfold dL at q2
    simp only [ak,decide_eq_true_eq] at q2
    obtain ⟨⟨a1,_,_,a4⟩,_⟩:=q2
    rw [hc.1] at a1 a4
    have:j4 1=0:=rfl
    exact ⟨List.length_eq_zero_iff.1 (by omega),List.length_eq_zero_iff.1 (a4 rfl)⟩
   obtain ⟨m1,h1,h2⟩:=ar h
   have w1:=xU (by omega) (by omega) u 0 0 m1 h1
   have w2:=xU (by omega) (by omega) m1 0 0 o h2
   have e1:aA o=aA u:=by rw [w2.2.1,w1.2.1]
   have e2:ah o=ah u:=by rw [w2.1,w1.1]
   refine ⟨fo.ok,(iX fo.2).2.2, ?_,by omega⟩
   rw [e1,hk1.1,hk1.2,ee,if_pos hc,jz,iC,aA,ax,aM]
   have:=po u
   omega
  ·rename_i hc
   obtain ⟨ks',e2,h⟩:=ar h
   obtain ⟨sys',e3,h⟩:=ar h
   injection h with h;subst h
   obtain ⟨k1,k2,k3,k4,k5⟩:=agt ih1 hv hd (by omega) hok.2.1 q3 e2
   obtain ⟨s1,s2,s3,s4,s5,s6⟩:=agv ih2 hv hd (by omega) hok.2.2 q4 e3
   obtain ⟨o1,o2,o3,o4,o5,o6,o7⟩:=hok.1
   have hm:0<=m->0<=(if kd=1/\m>n+v then m-1 else m):=by intro h;split<;>omega
   refine ⟨?_, ?_, ?_, ?_⟩
   ·rw [OkT]
    exact ⟨⟨o1,by unfold aR at*;split<;>omega,o3,o4,o5,by omega,by omega⟩,k1,s1⟩
   ·rw [aE,k2,s2]
    simp only [Bool.false_and,dr,Bool.true_and,Bool.and_true]
    unfold dL at q2 ⊢
    simp only [ak,decide_eq_true_eq] at q2 ⊢
    rw [k5,s5,s6]
    obtain ⟨⟨a1,a2,a3,a4⟩,a5⟩:=q2
    refine ⟨⟨a1, ?_,a3,a4⟩, ?_⟩
    ·by_cases c:kd=1
     ·exact .inl c
     ·exact .inr (by rw [if_neg (fun h=>c h.1)];exact a2.resolve_left c)
    ·by_cases c1:kd=1
     ·rw [if_pos c1] at a5 ⊢
      simp only [ak,decide_eq_true_eq] at a5 ⊢
      exact ⟨a5.1,hm a5.2.1,.inl (by decide)⟩
     ·rw [if_neg c1] at a5 ⊢;exact a5
   ·rw [ee,if_neg hc,aA,aA,k3,s3,jd,Nat.add_mul];omega
   ·rw [ah,ah];omega
end
theorem agB {n:Int} (hn:0<=n) {t u o:Tm} (ht:Fm t) (hu:Fm u) (h:ls n t u= .ok o):Fm o:=by
 unfold ls at h
 split at h
 ·cases h
 rename_i h0
 obtain ⟨o',h1,h⟩:=ar h
 split at h
 ·cases h
 rename_i h2
 injection h with h;subst h
 obtain ⟨d1,d2,d3⟩:=iX ht.2
 obtain ⟨p1,p2,p3,p4⟩:=OR hu hn t (eD 0) (eD 0) (by omega) ht.ok d3 h1
 rw [dH] at p3
 exact ⟨p1,rM (by omega) (by omega) p2⟩
theorem agE {n:Int} {u:Tm} (t:Tm): ∀ {v d e:Int},fS n u v d t= .error e->0<e/\e<=1000:=by
 induction t using gi with
 |h kd m nm r ks sys ih1 ih2=>
  intro v d e h
  have hk: ∀ {l:LT} {i:Nat},(∀x∈l,∀ {v d e:Int},fS n u v d x= .error e->0<e/\e<=1000)->iN n u v d kd i l= .error e->0<e/\e<=1000:=by
   intro l
   induction l with
   |nil=>intro i _ h;rw [iN] at h;cases h
   |cons t l ih=>
    intro i h hl
    rw [iN] at hl
    rcases cS hl with hl|⟨_,_,hl⟩
    ·exact h t (by simp) hl
    rcases cS hl with hl|⟨_,_,hl⟩
    ·exact ih (fun x hx=>h x (by simp [hx])) hl
    ·cases hl
  have hm: ∀ {l:LT},(∀x∈l,∀ {v d e:Int},fS n u v d x= .error e->0<e/\e<=1000)->i_ n u v d kd l= .error e->0<e/\e<=1000:=by
   intro l
   induction l with
   |nil=>intro _ h;rw [i_] at h;cases h
   |cons t l ih=>
    intro h hl
    rw [i_] at hl
    rcases cS hl with hl|⟨_,_,hl⟩
    ·exact h t (by simp) hl
    rcases cS hl with hl|⟨_,_,hl⟩
    ·exact ih (fun x hx=>h x (by simp [hx])) hl
    ·cases hl
  have hs: ∀ {l:LB},(∀b∈l,∀x∈b.kids,∀ {v d e:Int},fS n u v d x= .error e->0<e/\e<=1000)->gF n u v d kd l= .error e->0<e/\e<=1000:=by
   intro l
   induction l with
   |nil=>intro _ h;rw [gF] at h;cases h
   |cons b l ih=>
    intro h hl
    rw [gF] at hl
    obtain ⟨f,ks'⟩:=b
    rcases cS hl with hl|⟨_,_,hl⟩
    ·rw [yE] at hl
     rcases cS hl with hl|⟨_,_,hl⟩
     ·exact hm (h ⟨f,ks'⟩ (by simp)) hl
     ·cases hl
    ·rcases cS hl with hl|⟨_,_,hl⟩
     ·exact ih (fun b hb=>h b (by simp [hb])) hl
     ·cases hl
  rw [fS] at h
  split at h
  ·exact na h
  ·rcases cS h with h|⟨_,_,h⟩
   ·exact hk ih1 h
   ·rcases cS h with h|⟨_,_,h⟩
    ·exact hs ih2 h
    ·cases h
theorem OO {n:Int} {t u:Tm} {e:Int} (h:ls n t u= .error e):0<e/\e<=1000:=by
 unfold ls at h
 split at h
 ·injection h with h;omega
 ·rcases cS h with h|⟨_,_,h⟩
  ·exact agE t h
  ·split at h
   ·injection h with h;omega
   ·cases h
def gC {α:Type} (t:Tm) (x:Except Int α):Except Int α:=if ck t=0 then x else .error (ck t)
theorem oG {α:Type} {t:Tm} {x:Except Int α} {e:Int} (hx: ∀e,x= .error e->0<e/\e<=1000) (h:gC t x= .error e):0<e/\e<=1000:=by
 unfold gC at h
 split at h
 ·exact hx e h
 ·rename_i h0
  injection h with h
  have:=GL t;omega
def bU (a b:Int) (t:Tm):Except Int Tm:=gC t (ep a b t)
def iG (f b:Int) (t:Tm):Except Int Tm:=gC t (dm 0 b 0 f t)
def aP (i:Int) (r:LC) (t:Tm):Except Int Tm:=gC t (dQ i r t)
theorem fZ {e:Int} (h:e≠0):(e==0)=false:=by simpa using h
theorem aic (hk:F3 k) {t:Tm} (ht:In k t) {vb db:Int} (hvb:0<=vb/\vb<=1000000) (hdb:0<=db/\db<9223372036854775808) (J:Tm×Int->OS S):pM k t vb db J=J (tE (bU vb db t)):=by
 unfold bU gC
 by_cases h:ck t=0
 ·rw [if_pos h];exact IY hk ⟨ht.1,h⟩ hvb hdb J
 ·rw [if_neg h]
  simp only [pM,ap hk.fu,aO,BR,Ed,jo ht.1 ht.2.1 ht.dep,fZ h,dr,al];rfl
theorem IQ (hk:F3 k) {t:Tm} (ht:In k t) {f b:Int} (hf:0<=f/\f<=24) (hb:0<=b/\b<9223372036854775808) (J:Tm×Int->OS S):ox k t f b J=J (tE (iG f b t)):=by
 unfold iG gC
 by_cases h:ck t=0
 ·rw [if_pos h];exact R9 hk ⟨ht.1,h⟩ hf hb J
 ·rw [if_neg h]
  simp only [ox,ap hk.fu,aO,BP,Eb,jo ht.1 ht.2.1 ht.dep,fZ h,dr,al];rfl
theorem IS (hk:F3 k) {t:Tm} (ht:In k t) {i:Int} (hi:0<=i/\i<24) {r:LC} (hr:RF r) (J:Tm×Int->OS S):mz k t i r J=J (tE (aP i r t)):=by
 unfold aP gC
 by_cases h:ck t=0
 ·rw [if_pos h];exact IR hk ⟨ht.1,h⟩ hi hr J
 ·rw [if_neg h]
  simp only [mz,ap hk.fu,aO,Bf,jo ht.1 ht.2.1 ht.dep,fZ h,dr,al];rfl
end Go.Proofs.YtgajalidbabccaaGreatDoor
namespace Go.Proofs.YtgajalidbabccaaGreatDoor
open Go PI
set_option maxRecDepth 20000

variable {S:Type} {k:Nat}
def ej (l:LT) (x:Except Int Tm):Except Int Tm:=if eo l=0 then jD x else .error (eo l)
theorem soM {l:LT} {p:Tm×Int} {x:Except Int Tm} (h0:eo l=0->n2 p=x) (hc:eo l≠0->p.2=eo l):jD (n2 p)=ej l x:=by
 unfold ej
 by_cases h:eo l=0
 ·grind
 ·rw [if_neg h]
  unfold n2
  rw [hc h,if_neg h];rfl
theorem abE {c:Int} {t a f y:Tm} (h:(pY c t a f y).2=0):c=0:=by
 grind [LZ]
theorem akg {p:Tm×Int} (h:p.2=0):n2 p= .ok p.1:=if_pos h
theorem aih (hk:F3 k) {t a f y:Tm} (ht:In k t) (ha:In k a) (hf:In k f) (hy:In k y) (J:Tm×Int->OS S):A4 k t a f y J=J (tE (ej [t,a,f,y] (ie t a f y))):=by
 have hin: ∀x∈[t,a,f,y],In k x:=fun x hx=>by
  grind
 have hfm:eo [t,a,f,y]=0-> ∀x∈[t,a,f,y],Fm x:=fun h=>pu (fun x hx=>(hin x hx).1) h
 simp only [A4,ap hk.fu,aO,IU hk hin (by simp),pk t ht.1 _ ht.2.1,aiJ hk (fun h=>hfm h a (by simp)) (fun h=>hfm h f (by simp)) (fun h=>hfm h y (by simp))]
 refine (R2 hk (t:=(pY (eo [t,a,f,y]) t a f y).1) (fun h=> ?_) J).trans ?_
 ·have h0:=abE h
  have:=akg h
  rw [h0,L0] at this
  rw [h0]
  exact (L3 (by omega) (by omega) (hfm h0 t (by simp)).f2 (hfm h0 a (by simp)).f2 (hfm h0 f (by simp)).f2 (hfm h0 y (by simp)).f2 this).isIn hk (by omega) (by omega)
 grind [soM,L0,LZ]
structure Gd (x:Except Int Tm):Prop where
 en: ∀e,x= .error e->0<e/\e<=1000
 kd: ∀t,x= .ok t->0<=t.kind
section
variable {hd:Tm->(Tm->OS S)->OS S} {t:Tm}
end
def dR (sys:LB):Tm:= .mk 15 0 au [] [.mk 3 0 au [] [] [],.mk 3 0 au [] [] []] sys
theorem ajg (hk:Fu k) (sys:LB) (J:Int×Int×BA×LT×LB->OS S):wN k sys J=J (15,0,au,[.mk 3 0 au [] [] [],.mk 3 0 au [] [] []],sys):=by
 simp_all [wN,fF,ap]
def bN (b:Br Tm):Tm:=b.kids.headD noT
structure SyF (sys:LB):Prop where
 kid: ∀b∈sys,b.kids=[bN b]/\Fm (bN b)/\av b.face/\b.face.length<1073741824
 len:sys.length<=20000
 siz:aM sys<=20000
theorem Er {sys:LB} (h:Fm (dR sys)):SyF sys:=by
 obtain ⟨h1,h2,h3⟩:=iX h.2
 have hz:aA (dR sys)=3+aM sys:=by rfl
 have hd:aN sys+1<=ah (dR sys):=by grind [dR,ah]
 unfold dR at h3
 rw [aE] at h3
 simp only [ak] at h3
 obtain ⟨_,ho,_,hS⟩:=h3
 have ho:(sys.all (bR 15 24)&&decide (([]:LC).length=0))=true:=by
  grind [dL]
 simp only [ak] at ho
 have hb:=d7.1 ho.1
 rw [rq,d7] at hS
 have hk: ∀b∈sys,b.kids=[bN b]/\Fm (bN b)/\av b.face/\b.face.length<1073741824:=by
  intro b hb'
  have h1':=hb b hb'
  unfold bR at h1'
  simp only [ak,decide_eq_true_eq] at h1'
  have hl:b.kids.length=1:=by grind [fQ]
  have hok:=h.1.br (by exact hb':b∈sys)
  match hb2:b.kids,hl with
  |[x],_=>
   have hx:bN b=x:=by grind [bN]
   have hmem:x∈b.kids:=by grind
   rw [hx]
   refine ⟨rfl,⟨hok.2 x hmem,rM ?_ ?_ ?_⟩,hok.1.1,hok.1.2.1⟩
   ·have:=Gm hmem;have:=Lf hb';omega
   ·have:=pn hmem;have:=zc hb';omega
   ·have:=d7.1 (hS b hb') x hmem
    rw [<-this]
    exact nh x (by omega) (by decide)
 have hlen: ∀l:LB,(∀b∈l,b.kids=[bN b])->l.length<=aM l:=by
  intro l
  induction l<;>grind [aM,pm,ax,po]
 exact ⟨hk,by grind,by omega⟩
def kY (line:Tm):LB->Except Int (LB)
 |[]=> .ok []
 |b::r=>bE (jV [⟨1,0⟩,⟨2,0⟩] line) fun u=>bE (kY line r) fun l=> .ok (.mk b.face [.mk 14 0 au [⟨1,0⟩] [u,bN b] []]::l)
def iD (line a:Tm) (sys:LB):Except Int Tm:=bE (dQ 0 [⟨0,0⟩] line) fun l1=>bE (kY line sys) fun l=> .ok (.mk 15 0 au [] [l1,aF 14 [line,a]] l)
theorem DR:RF [⟨1,0⟩,⟨2,0⟩]:=by
 refine ⟨by rfl,fun c hc=> ?_⟩
 simp only [eb,List.not_mem_nil,or_false] at hc
 rcases hc with rfl|rfl
 ·exact ⟨⟨by decide,by decide⟩,by decide,by decide⟩
 ·exact ⟨⟨by decide,by decide⟩,by decide,by decide⟩
theorem nW:RF [⟨0,0⟩]:=jN ⟨⟨by decide,by decide⟩,by decide,by decide⟩
theorem afP:av [⟨1,0⟩]:=fun c hc=>by grind [OE]
theorem vA {r:LC} {t y:Tm} (ht:Fm t) (h:dQ 0 r t= .ok y):OkT y/\ah y<=200/\aA y<=20000:=by
 obtain ⟨w1,w2,w3,w4⟩:=SS h
 have h4:=w4 ht.ok ht.rows
 have:=ht.dep;have:=ht.siz
 grind
theorem Y7 {line:Tm}: ∀ {r:LB} {e:Int},kY line r= .error e->0<e/\e<=1000:=by
 intro r
 induction r with
 |nil=>intro e h;cases h
 |cons b r ih=>
  intro e h
  rcases cS h with h|⟨_,_,h⟩<;>grind [cS,zJ]
theorem wJ {line a:Tm} {sys:LB} {e:Int} (h:iD line a sys= .error e):0<e/\e<=1000:=by
 rcases cS h with h|⟨_,_,h⟩
 ·exact vz h
 rcases cS h with h|⟨_,_,h⟩
 ·exact Y7 h
 simp_all
theorem Y8 {line:Tm} (hl:Fm line): ∀ {r l:LB},(∀b∈r,b.kids=[bN b]/\Fm (bN b)/\av b.face/\b.face.length<1073741824)->kY line r= .ok l->a_ l/\aN l<=201/\aM l<=r.length*20001+aM r/\l.length=r.length:=by
 intro r
 induction r with
 |nil=>
  intro l _ h
  injection h with h;grind [a_,aN]
 |cons b r ih=>
  intro l hr h
  obtain ⟨u,h1,h⟩:=ar h
  obtain ⟨l',h2,h⟩:=ar h
  injection h with h;subst h
  obtain ⟨b1,b2,b3,b4⟩:=hr b (by simp)
  obtain ⟨i1,i2,i3,i4⟩:=ih (fun b hb=>hr b (by simp [hb])) h2
  obtain ⟨a1,a2,a3,a4⟩:=KH hl h1
  have:=b2.dep
  refine ⟨?_, ?_, ?_,by simp [i4]⟩
  ·rw [a_,gM,aU,aU,OkT,aU,aU,aU,a_]
   refine ⟨⟨⟨b3,b4,by simp⟩,⟨⟨by unfold aR;omega,by unfold aR;omega,by simp,afP,by simp,by simp,by simp⟩,⟨a1,b2.ok,trivial⟩,trivial⟩,trivial⟩,i1⟩
  all_goals grind [aN,ji,az,ah,aM,ax,aA,pm]
theorem FK (hk:F3 k) {line a:Tm} {sys:LB} (hl:Fm line) (ha:Fm a) (hs:SyF sys) {t:Tm} (h:iD line a sys= .ok t):In k t/\0<=t.kind:=by
 obtain ⟨l1,h1,h⟩:=ar h
 obtain ⟨l,h2,h⟩:=ar h
 injection h with h;subst h
 obtain ⟨a1,a2,a3⟩:=vA hl h1
 obtain ⟨i1,i2,i3,i4⟩:=Y8 hl hs.kid h2
 have:=hs.len;have:=hs.siz;have:=hl.dep;have:=ha.dep;have:=hl.siz;have:=ha.siz
 have hm:sys.length*20001<=20000*20001:=Nat.mul_le_mul_right _ hs.len
 refine ⟨⟨?_,hk.fd ?_, ?_⟩,(by decide:(0:Int)<=15)⟩
 ·rw [OkT,aU,aU,aU]
  exact ⟨⟨by unfold aR;omega,by unfold aR;omega,by simp,fun c hc=>(by cases hc),by simp,by simp,by omega⟩,⟨a1,HM (by omega) (by simp) fun x hx=>by
   simp at hx
   rcases hx with rfl|rfl
   ·exact hl.ok
   ·exact ha.ok,trivial⟩,i1⟩
 ·grind [aF,ah,az,aN]
 ·unfold aF;rw [aA,ax,ax,ax,aA,ax,ax,ax,aM];omega
theorem aiy (hk:F3 k) {c:Int} {t:Tm} (h:c=0->Fm t) (J:Tm×Int->OS S):A6 k t c J=J (if c=0 then tE (dQ 0 [⟨0,0⟩] t) else (noT,c)):=by
 simp only [A6,ap hk.fu,fE,fc,rD,aO]
 by_cases hc:c=0
 ·grind [ae,IR,nW,qE]
 ·rw [decide_eq_false hc,dr,al,if_neg hc];rfl
theorem G_ (hk:F3 k) (J:Tm×Int->OS S) {line:Tm} {q:Int×Int×BA×LT} {w:Tm} {c:Int} (hc:c≠0) (hw:w.sys.length<1073741824):
  ∀ (r p acc:LB) (m:Nat),w.sys=p++r->0<m->oP k J line q w m c acc (p.length:Int)=J (noT,c):=by
 intro r p acc m h hm
 obtain ⟨m,rfl⟩: ∃j,m=j+1:=⟨m-1,by omega⟩
 cases r with
 |nil=>grind [oP,tt,ae,aO,ap,qD]
 |cons x r=>
  obtain ⟨e1,e2,e3,e4⟩:=bM h (by omega)
  grind [oP,tt,al,fE,aO,ap,qD]
theorem adU (hk:F3 k) (J:Tm×Int->OS S) {line:Tm} (hl:Fm line) {q:Int×Int×BA×LT} {w:Tm} (hw:w.sys.length<1073741824) (hs: ∀b∈w.sys,b.kids=[bN b]):
  ∀ (r p acc:LB) (m:Nat),w.sys=p++r->r.length<m->acc.length+r.length<1073741824->
   oP k J line q w m 0 acc (p.length:Int)=eE (kY line r) (fun l=>jB k (.mk q.1 q.2.1 q.2.2.1 [] q.2.2.2 (acc++l)) 0 fun z=>J (z.1,z.2.1)) fun e=>J (noT,e):=by
 intro r
 induction r with
 |nil=>
  intro p acc m h hm ha
  obtain ⟨m,rfl,hm'⟩:=aw hm
  simp only [oP,tt,eP h,ae,ap hk.fu,aO,kY,dz,eZ]
 |cons x r ih=>
  intro p acc m h hm ha
  obtain ⟨m,rfl,hm'⟩:=aw hm
  obtain ⟨e1,e2,e3,e4⟩:=bM h (by omega)
  have hx:=hs x (by grind)
  have hg:ao x.kids 0=some (bN x):=by rw [hx];rfl
  have hat: ∀g:Tm×Int->OS S,nw k line [⟨1,0⟩,⟨2,0⟩] 0 g=g (tE (jV [⟨1,0⟩,⟨2,0⟩] line)):=fun g=>RV hk hl DR g
  simp only [oP,tt,e1,al,e2,aV,ap hk.fu,fE,fc,show decide ((0:Int)=0)=true from rfl,dT,ae,aO,hat,hg,fF]
  rw [cX (by grind),kY,dC]
  cases hx2:jV [⟨1,0⟩,⟨2,0⟩] line with
  |error e=>
   have he:=zJ hx2
   rw [e3]
   exact G_ hk J (show e≠0 by omega) hw r (p++[x]) _ m e4 (by grind)
  |ok u=>
   rw [dz,dC,e3]
   refine (ih (p++[x]) (acc++[.mk x.face [.mk 14 0 au [⟨1,0⟩] [u,bN x] []]]) m e4 hm' (by grind)).trans ?_
   grind [dz]
theorem aid (hk:F3 k) {line a:Tm} {sys:LB} (hl:In k line) (ha:In k a) (hs:In k (dR sys)) (J:Tm×Int->OS S):A3 k line a sys J=J (tE (ej [line,a,dR sys] (iD line a sys))):=by
 have hin: ∀x∈[line,a,dR sys],In k x:=fun x hx=>by
  grind
 have hfm:eo [line,a,dR sys]=0-> ∀x∈[line,a,dR sys],Fm x:=fun h=>pu (fun x hx=>(hin x hx).1) h
 have hsl:sys.length<1073741824:=hs.1.node.2.2.2.2.2.2
 simp only [A3,Ja,ap hk.fu,aO,ajg hk.fu]
 have hb: ∀g:Int->OS S,rC k [line,a,.mk 15 0 au [] [.mk 3 0 au [] [] [],.mk 3 0 au [] [] []] sys] g=g (eo [line,a,dR sys]):=fun g=>IU hk hin (by simp) g
 have hc: ∀g:Tm->OS S,fH k (.mk 15 0 au [] [.mk 3 0 au [] [] [],.mk 3 0 au [] [] []] sys) g=g (dR sys):=fun g=>pk (dR sys) hs.1 g hs.2.1
 simp only [hb,hc,pk line hl.1 _ hl.2.1,pk a ha.1 _ ha.2.1,aiy hk (fun h=>hfm h line (by simp)),fF]
 unfold ej
 by_cases h0:eo [line,a,dR sys]=0
 ·have fl:=hfm h0 line (by simp)
  have fa:=hfm h0 a (by simp)
  have sy:=Er (hfm h0 (dR sys) (by simp))
  simp only [h0,if_true]
  have hret:J (tE (jD (iD line a sys)))=eE (iD line a sys) (fun t=>jB k t 0 fun z=>J (z.1,z.2.1)) fun e=>J (noT,e):=by
   unfold jD
   rw [mh _ J,dC]
   refine ic (fun t ht=> ?_) fun _ _=>rfl
   rw [<-mh _ J]
   exact ((R2 hk (t:=t) (c:=0) (fun _=>(FK hk fl fa sy ht).1) J).trans rfl).symm
  rw [hret]
  unfold iD
  rw [dC]
  cases h1:dQ 0 [⟨0,0⟩] line with
  |error e=>
   have he:=vz h1
   exact G_ hk J (w:=dR sys) (show e≠0 by omega) hsl sys [] [] k rfl (by omega)
  |ok l1=>
   rw [dz,dC]
   refine (adU hk J fl (w:=dR sys) hsl (fun b hb=>(sy.kid b hb).1) sys [] [] k rfl (by omega) (by grind)).trans ?_
   rfl
 ·simp only [if_neg h0]
  exact G_ hk J (w:=dR sys) h0 hsl sys [] [] k rfl (by omega)
def L5:LB->Except Int (LB)
 |[]=> .ok []
 |b::r=>bE (eM (cm b.face 0 1)) fun f=>bE (jV [⟨3,0⟩] (bN b)) fun u=>bE (L5 r) fun l=> .ok (.mk f [u]::l)
def abJ (t a:Tm) (sys:LB):Except Int Tm:=bE (ep 0 1 t) fun t'=>bE (ep 0 1 a) fun a'=>bE (L5 sys) fun l=>bE (ep 0 2 a) fun a2=> .ok (.mk 15 0 au [] [t',a'] (l++[.mk [⟨0,1⟩] [a2]]))
theorem afO {l l':LB} (h:a_ l) (h':a_ l'):a_ (l++l'):=by
 grind [OD]
theorem Le (l l':LB):aN (l++l')=max (aN l) (aN l'):=by
 induction l<;>grind [aN]
theorem ajx (l l':LB):aM (l++l')=aM l+aM l':=by
 induction l<;>grind [aM]
def mM (c:Int) (x:Except Int Tm):Tm×Int:=if c=0 then tE x else (noT,c)
theorem sQ (x:Except Int Tm):mM 0 x=tE x:=rfl
theorem sS {c:Int} (h:c≠0) (x:Except Int Tm):mM c x=(noT,c):=if_neg h
theorem lD (t:Tm) (e c:Int) (J:Tm×Int->OS S):jh k t e c J=J (if c=0 then (if e=0 then (t,0) else (noT,e)) else (noT,c)):=by
 simp only [jh,aO]
 by_cases hc:c=0
 ·subst hc
  rw [show ((0:Int)==0)=true from rfl,al,if_pos rfl]
  by_cases he:e=0
  ·subst he;rfl
  ·rw [fZ he,dr,al,if_neg he];rfl
 ·rw [fZ hc,ae,if_neg hc,dr,al];rfl
theorem MX (x:Except Int Tm) (hx: ∀e,x= .error e->e≠0) (c:Int):(if c=0 then (if (tE x).2=0 then ((tE x).1,(0:Int)) else (noT,(tE x).2)) else (noT,c))=mM c x:=by
 unfold mM
 split
 ·cases x with
  |ok t=>rfl
  |error e=>rw [if_neg (show (tE (.error e)).2≠0 from hx e rfl)];rfl
 ·rfl
theorem qm {f:(Tm×Int->OS S)->OS S} {x:Except Int Tm} (c:Int) (hf:c=0-> ∀g,f g=g (tE x)) (hx: ∀e,x= .error e->e≠0) (J:Tm×Int->OS S):
  (ac (!(c==0)) (J (noT,c)) (f fun r=>J (if c=0 then (if r.2=0 then (r.1,0) else (noT,r.2)) else (noT,c))))=J (mM c x):=by
 by_cases hc:c=0
 ·subst hc
  rw [show (!((0:Int)==0))=false from rfl,ae,hf rfl,<-MX x hx 0]
 ·rw [fZ hc,dr,al,sS hc]
theorem yu {x:Except Int Tm} (h: ∀e,x= .error e->0<e/\e<=1000): ∀e,x= .error e->e≠0:=fun e he=>by have:=h e he;omega
theorem jb {a b:Int} {t:Tm}: ∀e,bU a b t= .error e->0<e/\e<=1000:=fun e h=>oG (fun e h=>na h) h
theorem xv {a b:Int} {t:Tm}: ∀e,iG a b t= .error e->0<e/\e<=1000:=fun e h=>oG (fun e h=>oZ t h) h
theorem qK {i:Int} {r:LC} {t:Tm}: ∀e,aP i r t= .error e->0<e/\e<=1000:=fun e h=>oG (fun e h=>vz h) h
theorem za (hk:F3 k) {t:Tm} {r:LC} {c:Int} (ht:c=0->In k t) (hr:RF r) (J:Tm×Int->OS S):pQ k t r c J=J (mM c (aP 0 r t)):=by
 simp only [pQ,ap hk.fu,ef,aO,lD]
 exact qm c (fun h g=>IS hk (ht h) (i:=0) (by decide) hr g) (yu qK) J
theorem Sb (hk:F3 k) {t:Tm} {c:Int} (ht:c=0->In k t) (J:Tm×Int->OS S):w7 k t c J=J (mM c (aP 0 [⟨0,0⟩] t)):=by
 simp only [w7,ap hk.fu,rD,aO,za hk ht nW]
theorem y_ (hk:F3 k) {t:Tm} {b c:Int} (ht:c=0->In k t) (hb:0<=b/\b<1000) (J:Tm×Int->OS S):pP k t b c J=J (mM c (iG 1 b t)):=by
 simp only [pP,ap hk.fu,ef,aO,lD]
 exact qm c (fun h g=>IQ hk (ht h) (f:=1) (b:=b) (by decide) (by omega) g) (yu xv) J
theorem lE (hk:F3 k) {t:Tm} {a b c:Int} (ht:c=0->In k t) (ha:0<=a/\a<1000) (hb:0<=b/\b<1000) (J:Tm×Int->OS S):jC k t a b c J=J (mM c (bU a b t)):=by
 simp only [jC,ap hk.fu,ef,aO,lD]
 exact qm c (fun h g=>aic hk (ht h) (vb:=a) (db:=b) (by omega) (by omega) g) (yu jb) J
theorem Sd (hk:F3 k) {f:LC} {b c:Int} (hf:av f) (hl:f.length<1073741824) (hb:0<=b/\b<1000) (J:LC×Int->OS S):w9 k f b c J=J (if c=0 then cm f 0 b else ([],c)):=by
 simp only [w9,ap hk.fu,ef,aO,lD]
 by_cases hc:c=0
 ·subst hc
  rw [show (!((0:Int)==0))=false from rfl,ae,vq hk.fu hf hl (by unfold aR;omega) (by unfold aR;omega),if_pos rfl,if_pos rfl]
  split
  ·rename_i h;rw [show cm f 0 b=((cm f 0 b).1,(cm f 0 b).2) from rfl,h]
  ·rfl
 ·rw [fZ hc,dr,al,if_neg hc]
def dM (c:Int) (t:Tm):Tm×Int:=if c=0 then (if ck t=0 then (t,0) else (noT,ck t)) else (noT,c)
def m_ (x:Except Int Tm):Tm×Bool×Int:=match x with
 | .ok t=>if ck t=0 then (t,true,0) else (noT,false,ck t)
 | .error e=>(noT,false,e)
theorem I0 (hk:F3 k) {t:Tm} {c:Int} (ht:In k t) (J:Tm×Bool×Int×Int->OS S):hY k t c J=J ((dM c t).1,(dM c t).2==0,(dM c t).2,(dM c t).2):=by
 simp only [hY,ap hk.fu,ef,aO,lD,jo ht.1 ht.2.1 ht.dep]
 have:OkT (dM c t).1/\Fd k (ah (dM c t).1):=by
  unfold dM
  split
  ·split
   ·exact ⟨ht.1,ht.2.1⟩
   ·exact ⟨(nP hk).1,(nP hk).2.1⟩
  ·exact ⟨(nP hk).1,(nP hk).2.1⟩
 exact pk (dM c t).1 this.1 _ this.2
theorem La {t:Tm} (g:Tm×Bool×Int->OS S):g ((dM 0 t).1,(dM 0 t).2==0,(dM 0 t).2)=g (m_ (.ok t)):=by
 unfold dM m_
 simp only [if_true]
 split
 ·rfl
 ·rename_i h;rw [fZ h]
theorem Zc {c:Int} (h:c≠0) {t:Tm} (g:Tm×Bool×Int->OS S):g ((dM c t).1,(dM c t).2==0,(dM c t).2)=g (m_ (.error c)):=by
 unfold dM m_
 rw [if_neg h,fZ h]
end Go.Proofs.YtgajalidbabccaaGreatDoor
namespace Go.Proofs.YtgajalidbabccaaGreatDoor
open Go PI
set_option maxRecDepth 20000
abbrev En:=Nat->Prop
def hp (c:Cl) (j:Nat):Prop:=c.pos.toNat.testBit j=true
def hn (c:Cl) (j:Nat):Prop:=c.neg.toNat.testBit j=true
theorem ack (a b:Cl) (j:Nat):hp (jJ a b) j↔hp a j\/hp b j:=by
 simp_all [hp,jJ,lr]
theorem acg (a b:Cl) (j:Nat):hn (jJ a b) j↔hn a j\/hn b j:=by
 simp_all [hn,jJ,lr]
theorem Ix {c:Cl} (h:RC c) {j:Nat} (hj:hp c j):j<24:=rx (by have:=h.1;omega) hj
theorem Iw {c:Cl} (h:RC c) {j:Nat} (hj:hn c j):j<24:=rx (by have:=h.2;omega) hj
theorem Tt {s:Int} {n:Nat} (hn:n<24) (j:Nat):(jQ s (n:Int)).toNat.testBit j=(s.toNat.testBit j&&decide (j<24)&& !decide (j=n)):=by
 unfold jQ
 rw [if_pos (by omega),ir,ir,uV,Nat.testBit_and,pH,Nat.testBit_two_pow]
 grind
def lO (P:En) (n:Nat) (A:Prop):En:=fun j=>(j≠n/\P j)\/(j=n/\A)
theorem acl (n:Nat) (hn24:n<24) (j:Nat): ¬hp (nl n) j:=by
 unfold hp nl;simp
theorem ach (n:Nat) (hn24:n<24) (j:Nat):hn (nl n) j↔j=n:=by
 grind [hn,nl,To]
theorem acm (n:Nat) (hn24:n<24) (j:Nat):hp (pl n) j↔j=n:=by
 grind [hp,pl,To]
theorem aci (n:Nat) (hn24:n<24) (j:Nat): ¬hn (pl n) j:=by
 unfold hn pl;simp
def rJ (n x:Nat):Nat:=if n<x then x-1 else x
theorem Ca {s:Int} {n:Nat} (hn24:n<24) (h:0<=s/\s<16777216) (y:Nat):(pV s (n:Int)).toNat.testBit y=true↔ ∃x,s.toNat.testBit x=true/\x≠n/\rJ n x=y:=by
 have hs:s.toNat<16777216:=by omega
 have hM:s.toNat&&&M24=s.toNat:=by
  apply Nat.eq_of_testBit_eq
  grind [pH,rx]
 unfold pV
 rw [ir]
 unfold pU
 rw [if_pos (by omega),ir,hM,Nat.testBit_or,Fv,Nat.testBit_mul_two_pow,Nat.testBit_div_two_pow,Bool.or_eq_true,ak,ak,decide_eq_true_eq,decide_eq_true_eq]
 unfold rJ
 grind
theorem M5 {s:Int} {n b:Nat} (h:0<=s/\s<16777216) (h0:(fh s n b).2=0) (y:Nat):(fh s n b).1.toNat.testBit y=true↔ ∃x,s.toNat.testBit x=true/\il n b x=y:=by
 have hs:s.toNat<16777216:=by omega
 unfold fh at h0 ⊢
 rw [if_neg (by omega)] at h0 ⊢
 simp only [ir] at h0 ⊢
 rw [M3] at h0 ⊢
 split at h0<;>grind [il,Fw,I5,mem_bitsN,rx]
theorem ae0 {c:Cl} {n b:Nat} (h0:(ig c n b).2=0):(fh c.pos n b).2=0/\(fh c.neg n b).2=0/\(ig c n b).1=⟨(fh c.pos n b).1,(fh c.neg n b).1⟩:=by
 grind [ig]
theorem abT {n b:Nat}: ∀ {l h:LC},(dP (jH n b) h l).2=0->(dP (jH n b) h l).1=h++l.map (fun c=>(ig c n b).1)/\ ∀c∈l,(ig c n b).2=0:=by
 intro l
 induction l<;>grind [dP,jH]
def RX (fa:Bool) (f:LC):Prop:=RF f/\(fa=true-> ∀c∈f,fC c=false)
def yG (fa:Bool) (f:LC) (i:Int) (r:LC):LC×Int:=if fa then me f i r else mf f i r
theorem agP {fa:Bool} {f r:LC} {i:Int} (hf:av f) (hr:av r) (h:(yG fa f i r).2=0):RX fa (yG fa f i r).1:=by
 unfold yG at h ⊢
 cases fa
 ·exact ⟨OX hr h,fun h=>by cases h⟩
 ·have:=OW hf hr h
  exact ⟨this.1,fun _=>this.2⟩
def uP (f:LC) (n:Nat):Prop:= ∀c∈f,¬hp c n/\ ¬hn c n
def same (n:Nat) (P P':En):Prop:= ∀j,j≠n->(P j↔P' j)
theorem same.symm {n:Nat} {P P':En} (h:same n P P'):same n P' P:=fun j hj=>(h j hj).symm
def ins (P:En) (n:Nat):En:=fun x=>x≠n/\P (rJ n x)
theorem akx {f:LC} {n:Nat}:qO f n=true↔ ¬uP f n:=by
 grind [qO,uP,hp,hn]
theorem has_dims {f:LC} {n:Nat}:iY (nA f) (n:Int)=true↔n<24/\ ¬uP f n:=by
 grind [iY,nA,ir,B_,akx]
theorem K9 {f:LC} (hf:RF f) {i:Int} (hi:24<=i):cD i f=f:=by
 have: ∀c∈f,my i c=c:=fun c hc=>by
  obtain ⟨p,q⟩:=c
  obtain ⟨h1,h2⟩:=hf.rc hc
  grind [my,pV,pU,X3]
 unfold cD
 rw [show f.map (my i)=f from (List.map_congr_left this).trans (List.map_id f),hf.1]
theorem aeT {l:LC}:(du l).1.length<=l.length:=by
 grind [du,Om]
theorem Kv (p:Int) (j:Nat): ¬hn ⟨p,0⟩ j:=by
 grind [hn]
theorem aeU {f:LC} {i b:Int}:(cm f i b).1.length<=f.length:=by
 unfold cm
 split
 ·split
  ·refine fN aeT ?_
   have:=(GK (i:=i) (b:=b) (r:=f) (h:=[]) (fun c hc=>by cases hc)).2
   grind
  ·simp
 ·simp
abbrev XQ:=Bool->Int->LC->LC->Prop
abbrev XP:=Int->LC->LC->Prop
mutual
def rp (pl:Bool):Tm->Prop
 | .mk kd n nm r ks sys=>RX (decide (kd=14)) r/\rn pl ks/\vR pl sys
def rn (pl:Bool):LT->Prop
 |[]=>True
 |t::l=>rp pl t/\rn pl l
def vR (pl:Bool):LB->Prop
 |[]=>True
 |b::l=>Ky pl b/\vR pl l
def Ky (pl:Bool):Br Tm->Prop
 | .mk f ks=>(RX true f/\(pl=true->f≠[]))/\rn pl ks
end
section
variable {pl:Bool} {c vb db kd:Int} {fo fa:gN} {Ro Ro':XQ} {Rb Rb':XP}
end
theorem C5 {d:Int} (h:0<=d): ∃n:Nat,d=n:=⟨d.toNat,by omega⟩
theorem abQ {r:LC} {fa:Bool} {d:Int} {f:LC} (h:gD 0 r fa d []= .ok f):f=[]:=by
 grind [Ma]
variable {S:Type} {k:Nat}
def HI (sys:LB):Bool:=sys.any fun b=>(b.face.length:Int)==0
mutual
def tb:Tm->Bool
 | .mk _ _ _ _ ks sys=> !HI sys&&(tc ks&&Da sys)
def tc:LT->Bool
 |[]=>true
 |t::l=>tb t&&tc l
def Da:LB->Bool
 |[]=>true
 |b::l=>OM b&&Da l
def OM:Br Tm->Bool
 | .mk _ ks=>tc ks
end
theorem RM {f:LC} (hf:av f) (h:bV f=true):RX true f:=by
 have:=(lz hf).1 h
 exact ⟨this.1,fun _=>this.2⟩
theorem HR {vars dims kd n nm r ks sys} (hok:OkT (.mk kd n nm r ks sys)) (h:dL vars dims (.mk kd n nm r ks sys)=true):RX (decide (kd=14)) r/\ ∀b∈sys,RX true b.face:=by
 obtain ⟨o1,o2,o3,o4,o5,o6,o7⟩:=hok.node
 unfold dL at h
 simp only [ak,decide_eq_true_eq] at h
 obtain ⟨⟨a1,a2,a3,a4⟩,a5⟩:=h
 have r0:r.length=0->RX (decide (kd=14)) r:=fun h=>by
  have:=List.length_eq_zero_iff.1 h;subst this;exact ⟨ja,fun _ c hc=>by cases hc⟩
 have nosys:fQ kd=0-> ∀b∈sys,RX true b.face:=fun h=>by
  grind
 split at a5
 ·rename_i c
  simp only [ak,decide_eq_true_eq] at a5
  exact ⟨r0 a5.1,nosys (by subst c;decide)⟩
 split at a5
 ·rename_i c
  simp only [ak,decide_eq_true_eq] at a5
  exact ⟨r0 a5.1,nosys (by subst c;decide)⟩
 split at a5
 ·rename_i c
  rw [ak] at a5
  exact ⟨⟨(mY o4).1 a5.1,fun h=>by grind⟩,nosys (by rcases c with rfl|rfl|rfl<;>decide)⟩
 split at a5
 ·rename_i c
  rw [ak] at a5
  subst c
  exact ⟨RM o4 a5.1,nosys (by decide)⟩
 ·simp only [ak,decide_eq_true_eq] at a5
  refine ⟨r0 a5.2,fun b hb=> ?_⟩
  have:=d7.1 a5.1 b hb
  unfold bR at this
  simp only [ak] at this
  exact RM (hok.br hb).1.1 this.2.1
theorem XY {bd pl:Bool} (t:Tm): ∀ {vars dims:Int},OkT t->aE bd vars dims t=true->(pl=true->tb t=true)->rp pl t:=by
 induction t using gi with
 |h kd n nm r ks sys ih1 ih2=>
  intro vars dims hok h hp
  rw [aE,ak,ak,ak] at h
  obtain ⟨_,a,b,c⟩:=h
  obtain ⟨hr,hb⟩:=HR hok a
  have hok':=hok
  rw [OkT] at hok'
  obtain ⟨_,ok,os⟩:=hok'
  rw [tb] at hp
  simp only [ak,j9] at hp
  have hk: ∀ {l:LT} {i:Nat},(∀x∈l,∀ {vars dims:Int},OkT x->aE bd vars dims x=true->(pl=true->tb x=true)->rp pl x)->aU l->bO bd vars dims kd i l=true->(pl=true->tc l=true)->rn pl l:=by
   intro l
   induction l<;>grind [bO,rn,tc,aU]
  have hm: ∀ {l:LT},(∀x∈l,∀ {vars dims:Int},OkT x->aE bd vars dims x=true->(pl=true->tb x=true)->rp pl x)->aU l->cQ bd vars dims kd l=true->(pl=true->tc l=true)->rn pl l:=by
   intro l
   induction l<;>grind [cQ,rn,tc,aU]
  have hs: ∀ {l:LB},(∀b∈l,∀x∈b.kids,∀ {vars dims:Int},OkT x->aE bd vars dims x=true->(pl=true->tb x=true)->rp pl x)->a_ l->(∀b∈l,RX true b.face)->aY bd vars dims kd l=true->(pl=true->HI l=false/\Da l=true)->vR pl l:=by
   intro l
   induction l with
   |nil=>grind [vR]
   |cons b l ih=>
    intro h1 h2 h3 h4 h5
    obtain ⟨f,ks'⟩:=b
    rw [a_] at h2
    rw [gM] at h2
    rw [aY,iQ,ak] at h4
    rw [HI,List.any_cons,Bool.or_eq_false_iff,Da,OM,ak] at h5
    rw [vR,Ky]
    refine ⟨⟨⟨h3 ⟨f,ks'⟩ (by simp),fun e he=> ?_⟩,hm (h1 ⟨f,ks'⟩ (by simp)) h2.1.2 h4.1 fun e=>(h5 e).2.1⟩,ih (fun b hb=>h1 b (by simp [hb])) h2.2 (fun b hb=>h3 b (by simp [hb])) h4.2 fun e=>⟨(h5 e).1.2,(h5 e).2.2⟩⟩
    grind
  grind [rp]
theorem Fm.pl {t:Tm} {pl:Bool} (h:Fm t) (hp:pl=true->tb t=true):rp pl t:=by
 have:=h.2
 unfold ck at this
 split at this
 ·simp_all
 split at this
 ·simp_all
 split at this
 ·rename_i h3;exact XY t h.1 h3 hp
 omega
theorem XW {kd d:Int}: ∀ {l:LT} {i:Nat} {x:Tm},24<=d->bO false (-1) d kd i l=true->x∈l->aE false (-1) 24 x=true:=by
 intro l
 induction l with
 |nil=>intro i x _ _ h;cases h
 |cons t l ih=>
  intro i x hd h hx
  rw [bO,ak] at h
  rcases eb.1 hx with rfl|hx
  ·have:=h.1
   rw [zk,nh x (by have:=iz kd i;omega) (eD 24)] at this;exact this
  ·exact ih hd h.2 hx
theorem Fm.kid {t x:Tm} (h:Fm t) (hx:x∈t.kids):Fm x:=by
 obtain ⟨h1,h2,h3⟩:=iX h.2
 have hd:=ga hx
 have hs:aA x<=aA t:=by have:=vu t;have:=pn hx;omega
 refine ⟨h.1.ki hx,rM (by omega) (by omega) ?_⟩
 obtain ⟨kd,n,nm,r,ks,sys⟩:=t
 rw [aE] at h3
 simp only [Bool.false_and,dr,Bool.true_and,ak] at h3
 exact XW (eD 24) h3.2.1 hx
theorem Fm.brk {t x:Tm} {b:Br Tm} (h:Fm t) (hb:b∈t.sys) (hx:x∈b.kids):Fm x:=by
 obtain ⟨h1,h2,h3⟩:=iX h.2
 have hd:=gA hb hx
 have hs:aA x<=aA t:=by have:=vu t;have:=zc hb;have:=pn hx;omega
 refine ⟨(h.1.bi hb).2 x hx,rM (by omega) (by omega) ?_⟩
 obtain ⟨kd,n,nm,r,ks,sys⟩:=t
 rw [aE] at h3
 simp only [Bool.false_and,dr,Bool.true_and,ak] at h3
 have:=h3.2.2
 rw [rq,d7] at this
 have:=d7.1 (this b hb) x hx
 rw [nh x (by have:=iZ kd;omega) (eD 24)] at this;exact this
theorem Fm.own {t:Tm} (h:Fm t):dL (-1) 24 t=true:=by
 have h3:=(iX h.2).2.2
 cases t
 rw [aE] at h3
 simp only [Bool.false_and,dr,Bool.true_and,ak] at h3
 exact h3.1
theorem Fm.nk {t:Tm} (h:Fm t):j4 t.kind=t.kids.length:=by
 have:=h.own
 cases t
 unfold dL at this
 simp only [ak,decide_eq_true_eq] at this
 exact this.1.1
theorem Fm.n0 {t:Tm} (h:Fm t) (hk:t.kind≠1):t.n=0:=by
 have:=h.own
 cases t
 unfold dL at this
 simp only [ak,decide_eq_true_eq] at this
 exact this.1.2.1.resolve_left hk
theorem X_ {b:BA} (h:b.size=0):b=au:=by
 obtain ⟨⟨l⟩⟩:=b
 cases l with
 |nil=>rfl
 |cons c l=>cases h
theorem Fm.nm0 {t:Tm} (h:Fm t) (hk:t.kind≠2):t.name=au:=by
 have:=h.own
 cases t
 unfold dL at this
 simp only [ak,decide_eq_true_eq] at this
 exact X_ (this.1.2.2.1.resolve_left hk)
theorem Fm.r14 {t:Tm} (h:Fm t) (hk:t.kind=14):RX true t.r:=by
 have:=HR (kd:=t.kind) (n:=t.n) (nm:=t.name) (r:=t.r) (ks:=t.kids) (sys:=t.sys) (by cases t;exact h.1) (by have:=h.own;cases t;exact this)
 have h1:=this.1
 rw [hk] at h1;exact h1
theorem Fm.face {t:Tm} {b:Br Tm} (h:Fm t) (hb:b∈t.sys):RX true b.face:=by
 have:=HR (kd:=t.kind) (n:=t.n) (nm:=t.name) (r:=t.r) (ks:=t.kids) (sys:=t.sys) (by cases t;exact h.1) (by have:=h.own;cases t;exact this)
 exact this.2 b hb
theorem ld {α:Type} {l:List α} {n:Nat} {i:Int} (hi:i=n) {x:α} (h:l[n]? =some x):ao l i=some x:=by subst hi;rw [ab9];exact h
theorem K4 (n:Int) (b:Br Tm) (l:LB):iC n (b::l)=jA n b.kids+iC n l:=by cases b;rfl
theorem AY (n:Int) (t:Tm):ee n t=(if t.kind=1/\t.n=n then 1 else 0)+(jz n t.kind 0 t.kids+iC n t.sys):=by cases t;rfl
theorem Y4 {kd:Int}: ∀ {l:LT} {i:Nat} {n:Int},(∀x∈l,∀n,ee n x<=aA x)->jz n kd i l<=ax l:=by
 intro l
 induction l<;>grind [jz,ax]
theorem Y5: ∀ {l:LT} {n:Int},(∀x∈l,∀n,ee n x<=aA x)->jA n l<=ax l:=by
 intro l
 induction l<;>grind [jA,ax]
theorem Y6: ∀ {l:LB} {n:Int},(∀b∈l,∀x∈b.kids,∀n,ee n x<=aA x)->iC n l<=aM l:=by
 intro l
 induction l<;>grind [iC,aM,K4,pm,Y5]
theorem K5 (t:Tm): ∀n,ee n t<=aA t:=by
 induction t using jr<;>grind [AY,DY,Y4,Y6]
theorem Fm.no_sys {t:Tm} (h:Fm t) (hk:fQ t.kind=0):t.sys=[]:=by
 have:=h.own
 cases t
 unfold dL at this
 simp only [ak,decide_eq_true_eq] at this
 exact List.length_eq_zero_iff.1 (this.1.2.2.2 hk)
theorem Fm.leaf {t:Tm} (h:Fm t) (hk:t.kind=1):t.kids=[]/\t.sys=[]:=by
 have hn:=h.nk
 rw [hk] at hn
 refine ⟨List.length_eq_zero_iff.1 (by have:j4 1=0:=rfl;omega),h.no_sys (by rw [hk];rfl)⟩
section
variable {hd:Tm->Int->(Int->OS S)->OS S} {t:Tm} {n:Int}
theorem adT (hk:Fu k) (J:Int->OS S) (rec2:Int->Int->OS S) {v:Int} {x:Br Tm} (hQ: ∀y∈x.kids,∀g,hd y n g=g ((ee n y:Nat):Int)) (hl:x.kids.length<1073741824):
  ∀ (r p:LT) (m a:Nat),x.kids=p++r->r.length<m->a+jA n r<4611686018427387904->sn hd k J rec2 n t v x m (a:Int) (p.length:Int)=rec2 (af .i64 (v+1)) ((a+jA n r:Nat):Int):=by
 intro r
 induction r with
 |nil=>grind [aw,jA,sn,As,ae]
 |cons y r ih=>
  intro p m a h hm ha
  obtain ⟨m,rfl,hm'⟩:=aw hm
  obtain ⟨e1,e2,e3,e4⟩:=bM h (by omega)
  have hy:=hQ y (by grind)
  have hz:a+jA n (y::r)=(a+ee n y)+jA n r:=by rw [jA];omega
  rw [hz] at ha ⊢
  have hw:af .i64 ((a:Int)+((ee n y:Nat):Int))=((a+ee n y:Nat):Int):=by grind [c5]
  simp only [sn,As,e1,al,e2,aV,aO,hy,e3,hw,ih (p++[y]) m (a+ee n y) e4 hm' ha]
theorem adS (hk:Fu k) (J:Int->OS S) (hQ: ∀b∈t.sys,∀y∈b.kids,∀g,hd y n g=g ((ee n y:Nat):Int)) (hl:t.sys.length<1073741824) (hl': ∀b∈t.sys,b.kids.length<1073741824):
  ∀ (r p:LB) (m a:Nat),t.sys=p++r->r.length<m->a+iC n r<4611686018427387904->oS hd k J n t m (p.length:Int) (a:Int)=J ((a+iC n r:Nat):Int):=by
 intro r
 induction r with
 |nil=>grind [aw,iC,oS,we,ae]
 |cons x r ih=>
  intro p m a h hm ha
  obtain ⟨m,rfl,hm'⟩:=aw hm
  obtain ⟨e1,e2,e3,e4⟩:=bM h (by omega)
  have hx:x∈t.sys:=by grind
  have hlx:=hl' x hx
  have hz:a+iC n (x::r)=(a+jA n x.kids)+iC n r:=by rw [K4];omega
  rw [hz] at ha ⊢
  have:=adT (t:=t) (n:=n) (v:=(p.length:Int)) hk J (oS hd k J n t m) (hQ x hx) hlx x.kids [] k a rfl (by have:=hk;omega) (by omega)
  simp only [oS,we,e1,al,e2,aV]
  refine aq this ?_
  rw [e3,ih (p++[x]) m (a+jA n x.kids) e4 hm' ha]
theorem adR (hk:Fu k) (J:Int->OS S) (hn:0<=n/\n<=2199023255552) (hQ: ∀y∈t.kids,∀n',0<=n'/\n'<=n+1-> ∀g,hd y n' g=g ((ee n' y:Nat):Int)) (hQ': ∀b∈t.sys,∀y∈b.kids,∀g,hd y n g=g ((ee n y:Nat):Int)) (ht:OkT t):
  ∀ (r p:LT) (m a:Nat),t.kids=p++r->r.length<m->a+jz n t.kind p.length r+iC n t.sys<4611686018427387904->si hd k J t n m (p.length:Int) (a:Int)=J ((a+jz n t.kind p.length r+iC n t.sys:Nat):Int):=by
 obtain ⟨o1,o2,o3,o4,o5,o6,o7⟩:=ht.no
 intro r
 induction r with
 |nil=>
  intro p m a h hm ha
  obtain ⟨m,rfl,hm'⟩:=aw hm
  have hz:a+jz n t.kind p.length []=a:=by rfl
  rw [hz] at ha ⊢
  have:=adS hk J hQ' o7 (fun b hb=>(ht.bi hb).1.2.2) t.sys [] k a rfl (by omega) ha
  grind [si,wc,ae]
 |cons y r ih=>
  intro p m a h hm ha
  obtain ⟨m,rfl,hm'⟩:=aw hm
  obtain ⟨e1,e2,e3,e4⟩:=bM h (by omega)
  have hb:=pG t.kind p.length
  have hwn:af .i64 (n+b8 t.kind p.length)=n+b8 t.kind p.length:=by grind [c5]
  have hy:=hQ y (by grind) (n+b8 t.kind p.length) (by omega)
  have hz:a+jz n t.kind p.length (y::r)=(a+ee (n+b8 t.kind p.length) y)+jz n t.kind (p++[y]).length r:=by grind [jz]
  rw [hz] at ha ⊢
  have hw:af .i64 ((a:Int)+((ee (n+b8 t.kind p.length) y:Nat):Int))=((a+ee (n+b8 t.kind p.length) y:Nat):Int):=by grind [c5]
  simp only [si,wc,e1,al,e2,aV,aO,ap hk,mZ,hwn,hy,e3,hw,ih (p++[y]) m (a+ee (n+b8 t.kind p.length) y) e4 hm' ha]
end
theorem aiw (t:Tm): ∀ {k:Nat} {n:Int} (J:Int->OS S),Fm t->Fd k (ah t)->0<=n/\n+ah t<=2199023255552->lX k t n J=J ((ee n t:Nat):Int):=by
 induction t using jr with
 |h t ih1 ih2=>
  intro k n J ft hk hn
  obtain ⟨q,rfl,hq,hf⟩:=hk.pos' (h_ t)
  have hp:=h_ t
  have hz:=ft.siz
  have hc:=K5 t n
  by_cases hv:t.kind=1/\t.n=n
  ·obtain ⟨l1,l2⟩:=ft.leaf hv.1
   grind [AY,jz,iC,lX,Ee,al]
  have hJ:CR (lX q) q J t n q=J ((ee n t:Nat):Int):=by
   obtain ⟨j,rfl⟩: ∃j,q=j+1:=⟨q-1,by omega⟩
   rw [AY,if_neg hv,jd]
   rw [AY] at hc
   have:=adR (t:=t) (n:=n) hq J (by omega) (fun y hy n' hn' g=>ih1 y hy g (ft.kid hy) (hf _ (ga hy)) ⟨hn'.1,by have:=ga hy;omega⟩) (fun b hb y hy g=>ih2 b hb y hy g (ft.brk hb hy) (hf _ (gA hb hy)) ⟨hn.1,by have:=gA hb hy;omega⟩) ft.ok t.kids [] (j+1) 0 rfl (by have:=ft.ok.no.2.2.2.2.2.1;omega) (by grind)
   grind [CR,Ar]
  simp only [lX,Ee,hJ]
  by_cases h1:t.kind=1<;>grind [al,ae]
section
variable {hd:Tm->Int->(Int->OS S)->OS S} {t:Tm} {n:Int}
end
theorem agD (n:Int) (u:Tm) (v d kd:Int) (b:Br Tm) (l:LB):gF n u v d kd (b::l)=bE (bE (i_ n u v d kd b.kids) fun ks'=> .ok (.mk b.face ks')) fun b'=>bE (gF n u v d kd l) fun l'=> .ok (b'::l'):=by cases b;rfl
theorem afF (t:Tm) (J:Int->OS S):BX k t J=J (aS t.kind):=by
 simp only [BX,aS]
 by_cases h:t.kind=15
 ·rw [h];rfl
 ·rw [beq_false_of_ne h,if_neg h];rfl
theorem Fm.r1 {t:Tm} (h:Fm t) (hk:t.kind=1):t.r=[]:=by
 have:=h.own
 obtain ⟨kd,n,nm,r,ks,sys⟩:=t
 have hk:kd=1:=hk
 subst hk
 unfold dL at this
 simp only [ak,decide_eq_true_eq,if_true] at this
 exact List.length_eq_zero_iff.1 this.2.1
section
variable {hd:Tm->Int->Tm->Int->Int->(Pan Int Tm->OS S)->OS S} {t u:Tm} {n v d:Int}
theorem aeC (hk:Fu k) (J:Pan Int Tm->OS S) (rec1:LB->Int->OS S) {ks:LT} {o:LB} {x:Br Tm} {i:Int} (hd0:0<=d/\d<4611686018427387904) (hQ: ∀y∈x.kids,∀g:Pan Int Tm->OS S,hd y n u v (d+aS t.kind) g=g (pE (fS n u v (d+aS t.kind) y))) (hl:x.kids.length<1073741824) (ho:o.length<1073741824):
  ∀ (r p acc:LT) (m:Nat),x.kids=p++r->r.length<m->acc.length+r.length<1073741824->
   sz hd k J rec1 t ks o x u n v d i m acc (p.length:Int)=eE (i_ n u v d t.kind r) (fun l=>rec1 (o++[.mk x.face (acc++l)]) (af .i64 (i+1))) fun e=>J (.pan e):=by
 have hm1:=iZ t.kind
 have hwd:af .i64 (d+aS t.kind)=d+aS t.kind:=by grind [c5]
 intro r
 induction r with
 |nil=>
  grind [aw,sz,Au,ae,i_,dz,cX]
 |cons y r ih=>
  intro p acc m h hm ha
  obtain ⟨m,rfl,hm'⟩:=aw hm
  obtain ⟨e1,e2,e3,e4⟩:=bM h (by omega)
  rw [dv] at ha
  simp only [sz,Au,e1,al,e2,aV,aO,ap hk,afF,hwd,hQ y (by grind),e3,i_]
  grind [dC,mC,ic,cX,dz]
theorem aeB (hk:Fu k) (J:Pan Int Tm->OS S) {ks:LT} (ht:OkT t) (hd0:0<=d/\d<4611686018427387904) (hQ: ∀b∈t.sys,∀y∈b.kids,∀g:Pan Int Tm->OS S,hd y n u v (d+aS t.kind) g=g (pE (fS n u v (d+aS t.kind) y))):
  ∀ (r p acc:LB) (m:Nat),t.sys=p++r->r.length<m->acc.length+r.length<1073741824->
   oT hd k J t ks u n v d m acc (p.length:Int)=eE (gF n u v d t.kind r) (fun l=>J (.ok (.mk t.kind 0 t.name t.r ks (acc++l)))) fun e=>J (.pan e):=by
 intro r
 induction r with
 |nil=>
  grind [aw,oT,wi,ae,gF,dz]
 |cons x r ih=>
  intro p acc m h hm ha
  obtain ⟨m,rfl,hm'⟩:=aw hm
  have hts:=ht.no.2.2.2.2.2.2
  obtain ⟨e1,e2,e3,e4⟩:=bM h (by omega)
  have hx:x∈t.sys:=by grind
  obtain ⟨⟨f1,f2,f3⟩,_⟩:=ht.bi hx
  rw [dv] at ha
  simp only [oT,wi,e1,al,e2,aV]
  rw [cX (by omega)]
  refine (aeC (o:=acc) (i:=(p.length:Int)) hk J (oT hd k J t ks u n v d m) hd0 (hQ x hx) f3 (by omega) x.kids [] [] k rfl (by omega) (by grind)).trans ?_
  rw [agD,dC,dC]
  refine ic (fun l _=> ?_) fun e _=>rfl
  grind [dz,dC]
theorem aeA (hk:Fu k) (J:Pan Int Tm->OS S) (ht:OkT t) (hv0:0<=v/\v<4611686018427387904) (hd0:0<=d/\d<4611686018427387904) (hQ: ∀y∈t.kids,∀a b,0<=a/\a<=1->0<=b/\b<=1-> ∀g:Pan Int Tm->OS S,hd y n u (v+a) (d+b) g=g (pE (fS n u (v+a) (d+b) y)))
  (hQ': ∀b∈t.sys,∀y∈b.kids,∀g:Pan Int Tm->OS S,hd y n u v (d+aS t.kind) g=g (pE (fS n u v (d+aS t.kind) y))):
  ∀ (r p acc:LT) (m:Nat),t.kids=p++r->r.length<m->acc.length+r.length<1073741824->
   uD hd k J t u n v d m acc (p.length:Int)=eE (iN n u v d t.kind p.length r) (fun l=>eE (gF n u v d t.kind t.sys) (fun l'=>J (.ok (.mk t.kind 0 t.name t.r (acc++l) l'))) fun e=>J (.pan e)) fun e=>J (.pan e):=by
 obtain ⟨o1,o2,o3,o4,o5,o6,o7⟩:=ht.no
 intro r
 induction r with
 |nil=>
  intro p acc m h hm ha
  obtain ⟨m,rfl,hm'⟩:=aw hm
  simp only [uD,wg,eP h,ae,iN,dz,eZ]
  exact aeB hk J ht hd0 hQ' t.sys [] [] k rfl (by omega) (by grind)
 |cons y r ih=>
  intro p acc m h hm ha
  obtain ⟨m,rfl,hm'⟩:=aw hm
  obtain ⟨e1,e2,e3,e4⟩:=bM h (by omega)
  have bv:=pG t.kind p.length
  have bd:=iz t.kind p.length
  have wv:af .i64 (v+b8 t.kind p.length)=v+b8 t.kind p.length:=by grind [c5]
  have wd:af .i64 (d+bL t.kind p.length)=d+bL t.kind p.length:=by grind [c5]
  rw [dv] at ha
  simp only [uD,wg,e1,al,e2,aV,aO,ap hk,mZ,wv,wd,hQ y (by grind) _ _ bv bd,e3,iN]
  rw [dC,mC]
  refine ic (fun y' _=> ?_) fun e _=>rfl
  rw [cX (by grind),ih (p++[y]) (acc++[y']) m e4 hm' (by grind),dC,List.length_append,List.length_singleton]
  grind [dz]
end
theorem ai3 {u:Tm} {n:Int} (fu:Fm u) (hn:0<=n/\n<=1099511627776) (t:Tm): ∀ {k:Nat} {v d:Int} (J:Pan Int Tm->OS S),Fm t->4294968296+ah t<=k->0<=v/\v+ah t<=1000->0<=d/\d+ah t<=1000->lY k t n u v d J=J (pE (fS n u v d t)):=by
 induction t using jr with
 |h t ih1 ih2=>
  intro k v d J ft hk hv hd
  have hp:=h_ t
  obtain ⟨q,rfl⟩: ∃q,k=q+1:=⟨k-1,by omega⟩
  have h3:F3 q:=by omega
  have hfu:=h3.fu
  have wn:af .i64 (n+v)=n+v:=by grind [c5]
  have hpe:fS n u v d t=if t.kind=1/\t.n=n+v then ep v d u else bE (iN n u v d t.kind 0 t.kids) fun ks'=>bE (gF n u v d t.kind t.sys) fun sys'=> .ok (.mk t.kind (if t.kind=1/\t.n>n+v then t.n-1 else t.n) t.name t.r ks' sys'):=by
   obtain ⟨kd,m,nm,r,ks,sys⟩:=t;rfl
  simp only [lY,JG,wn,ap hfu,aO]
  by_cases h1:t.kind=1
  ·obtain ⟨l1,l2⟩:=ft.leaf h1
   have hbe:(t.kind==1)=true:=by grind
   rw [hbe,al,hpe]
   by_cases h2:t.n=n+v
   ·rw [h2,beq_self_eq_true,al,if_pos ⟨h1,rfl⟩,IY h3 fu (by omega) (by omega)]
    cases hh:ep v d u with
    |error e=>
     have he:=na hh
     rw [show (tE (.error e)).2=e from rfl,fZ (show e≠0 by omega)];rfl
    |ok y=>rfl
   ·rw [beq_false_of_ne h2,ae,if_neg (fun h=>h2 h.2),l1,l2,iN,gF,bP,bP]
    have hr:t.r=[]:=ft.r1 h1
    have hnm:t.name=au:=ft.nm0 (by omega)
    by_cases h4:t.n>n+v
    ·have hi:=ft.ok.no.2.1
     have wt:af .i64 (t.n-1)=t.n-1:=by grind [aR,c5]
     rw [decide_eq_true h4,al,if_pos ⟨h1,h4⟩,wt,h1,hr,hnm];rfl
    ·rw [decide_eq_false h4,ae,if_neg (fun h=>h4 h.2),<-l1,<-l2]
     cases t;rfl
  ·rw [beq_false_of_ne h1,ae,hpe,if_neg (fun h=>h1 h.1),if_neg (fun h=>h1 h.1),ft.n0 h1]
   obtain ⟨o1,o2,o3,o4,o5,o6,o7⟩:=ft.ok.no
   rw [cX (by omega)]
   have hQ: ∀y∈t.kids,∀a b,0<=a/\a<=1->0<=b/\b<=1-> ∀g:Pan Int Tm->OS S,lY q y n u (v+a) (d+b) g=g (pE (fS n u (v+a) (d+b) y)):=fun y hy a b ha hb g=>by
    have:=ga hy
    exact ih1 y hy g (ft.kid hy) (by omega) (by omega) (by omega)
   have hQ': ∀b∈t.sys,∀y∈b.kids,∀g:Pan Int Tm->OS S,lY q y n u v (d+aS t.kind) g=g (pE (fS n u v (d+aS t.kind) y)):=fun b hb y hy g=>by
    have:=gA hb hy
    have:=iZ t.kind
    exact ih2 b hb y hy g (ft.brk hb hy) (by omega) (by omega) (by omega)
   have:=aeA (t:=t) (u:=u) (n:=n) (v:=v) (d:=d) hfu J ft.ok (by omega) (by omega) hQ hQ' t.kids [] [] q rfl (by omega) (by grind)
   refine this.trans ?_
   refine aq ?_ (Rh _ J).symm
   simp_all [dC,dz]
section
variable {hd:Tm->(Int->OS S)->OS S} {t:Tm}
theorem aeJ (hk:Fu k) (J:Bool×Int->OS S) (rec1:Int->Int->Int->OS S) {v more:Int} {x:Br Tm} (hQ: ∀y∈x.kids,∀g,hd y g=g ((aA y:Nat):Int)) (hl:x.kids.length<1073741824):
  ∀ (r p:LT) (m a:Nat),x.kids=p++r->r.length<m->a+ax r<4611686018427387904->sI hd k J rec1 t v x more m (a:Int) (p.length:Int)=rec1 ((a+ax r:Nat):Int) (af .i64 (v+1)) more:=by
 intro r
 induction r with
 |nil=>grind [aw,ax,sI,AI,ae]
 |cons y r ih=>
  intro p m a h hm ha
  obtain ⟨m,rfl,hm'⟩:=aw hm
  obtain ⟨e1,e2,e3,e4⟩:=bM h (by omega)
  have hy:=hQ y (by grind)
  have hz:a+ax (y::r)=(a+aA y)+ax r:=by rw [ax];omega
  rw [hz] at ha ⊢
  have hw:af .i64 ((a:Int)+((aA y:Nat):Int))=((a+aA y:Nat):Int):=by grind [c5]
  simp only [sI,AI,e1,al,e2,aV,aO,ap hk,xe,hy,e3,hw,dT,ae,ih (p++[y]) m (a+aA y) e4 hm' ha]
theorem aeI (hk:Fu k) (J:Bool×Int->OS S) {more:Int} (hQ: ∀b∈t.sys,∀y∈b.kids,∀g,hd y g=g ((aA y:Nat):Int)) (hl:t.sys.length<1073741824) (hl': ∀b∈t.sys,b.kids.length<1073741824):
  ∀ (r p:LB) (m a:Nat),t.sys=p++r->r.length<m->a+aM r<4611686018427387904->oW hd k J t m (a:Int) (p.length:Int) more=J (true,((a+aM r:Nat):Int)):=by
 intro r
 induction r with
 |nil=>grind [aw,aM,oW,wA,ae]
 |cons x r ih=>
  intro p m a h hm ha
  obtain ⟨m,rfl,hm'⟩:=aw hm
  obtain ⟨e1,e2,e3,e4⟩:=bM h (by omega)
  have hx:x∈t.sys:=by grind
  have hlx:=hl' x hx
  have hz:a+aM (x::r)=(a+ax x.kids)+aM r:=by rw [aM,pm];omega
  rw [hz] at ha ⊢
  have:=aeJ (t:=t) (v:=(p.length:Int)) (more:=more) hk J (oW hd k J t m) (hQ x hx) hlx x.kids [] k a rfl (by have:=hk;omega) (by omega)
  simp only [oW,wA,e1,al,e2,aV]
  refine aq this ?_
  rw [e3,ih (p++[x]) m (a+ax x.kids) e4 hm' ha]
theorem aeH (hk:Fu k) (J:Bool×Int->OS S) (hQ: ∀y∈t.kids,∀g,hd y g=g ((aA y:Nat):Int)) (hQ': ∀b∈t.sys,∀y∈b.kids,∀g,hd y g=g ((aA y:Nat):Int)) (ht:OkT t):
  ∀ (r p:LT) (m a:Nat),t.kids=p++r->r.length<m->a+ax r+aM t.sys<4611686018427387904->uN hd k J t m (a:Int) (p.length:Int)=J (true,((a+ax r+aM t.sys:Nat):Int)):=by
 obtain ⟨o1,o2,o3,o4,o5,o6,o7⟩:=ht.no
 intro r
 induction r with
 |nil=>
  intro p m a h hm ha
  obtain ⟨m,rfl,hm'⟩:=aw hm
  have hz:a+ax []=a:=by rfl
  rw [hz] at ha ⊢
  have:=fun more=>aeI (more:=more) hk J hQ' o7 (fun b hb=>(ht.bi hb).1.2.2) t.sys [] k a rfl (by omega) ha
  simp only [uN,wz,eP h,ae]
  cases (t.kind==15)<;>grind [ae,al]
 |cons y r ih=>
  intro p m a h hm ha
  obtain ⟨m,rfl,hm'⟩:=aw hm
  obtain ⟨e1,e2,e3,e4⟩:=bM h (by omega)
  have hy:=hQ y (by grind)
  have hz:a+ax (y::r)=(a+aA y)+ax r:=by rw [ax];omega
  rw [hz] at ha ⊢
  have hw:af .i64 ((a:Int)+((aA y:Nat):Int))=((a+aA y:Nat):Int):=by grind [c5]
  simp only [uN,wz,e1,al,e2,aV,aO,ap hk,mZ,xe,hy,e3,hw,dT,ae,ih (p++[y]) m (a+aA y) e4 hm' ha]
theorem adZ (hk:Fu k) (J:Bool×Int->OS S) (rec1:Int->Int->Int->OS S) {v more:Int} {x:Br Tm} (hQ: ∀y∈x.kids,∀g,hd y g=g ((ah y:Nat):Int)) (hl:x.kids.length<1073741824):
  ∀ (r p:LT) (m a:Nat),x.kids=p++r->r.length<m->sJ hd k J rec1 t v x more m (a:Int) (p.length:Int)=rec1 ((max a (az r):Nat):Int) (af .i64 (v+1)) more:=by
 intro r
 induction r with
 |nil=>grind [aw,az,sJ,AJ,ae]
 |cons y r ih=>
  intro p m a h hm
  obtain ⟨m,rfl,hm'⟩:=aw hm
  obtain ⟨e1,e2,e3,e4⟩:=bM h (by omega)
  have hy:=hQ y (by grind)
  have hz:max a (az (y::r))=max (max a (ah y)) (az r):=by rw [az];omega
  rw [hz]
  have hw:(if ((ah y:Nat):Int)>(a:Int) then ((ah y:Nat):Int) else (a:Int))=((max a (ah y):Nat):Int):=by omega
  simp only [sJ,AJ,e1,al,e2,aV,aO,ap hk,xd,hy,e3,hw,dT,ae,ih (p++[y]) m (max a (ah y)) e4 hm']
theorem adY (hk:Fu k) (J:Bool×Int->OS S) {more:Int} (hQ: ∀b∈t.sys,∀y∈b.kids,∀g,hd y g=g ((ah y:Nat):Int)) (hl:t.sys.length<1073741824) (hl': ∀b∈t.sys,b.kids.length<1073741824):
  ∀ (r p:LB) (m a:Nat),t.sys=p++r->r.length<m->oX hd k J t m (a:Int) (p.length:Int) more=J (true,((max a (aN r):Nat):Int)):=by
 intro r
 induction r with
 |nil=>grind [aw,aN,oX,wC,ae]
 |cons x r ih=>
  intro p m a h hm
  obtain ⟨m,rfl,hm'⟩:=aw hm
  obtain ⟨e1,e2,e3,e4⟩:=bM h (by omega)
  have hx:x∈t.sys:=by grind
  have hlx:=hl' x hx
  have hz:max a (aN (x::r))=max (max a (az x.kids)) (aN r):=by rw [aN,xq];omega
  rw [hz]
  have:=adZ (t:=t) (v:=(p.length:Int)) (more:=more) hk J (oX hd k J t m) (hQ x hx) hlx x.kids [] k a rfl (by have:=hk;omega)
  simp only [oX,wC,e1,al,e2,aV]
  refine aq this ?_
  rw [e3,ih (p++[x]) m (max a (az x.kids)) e4 hm']
theorem adX (hk:Fu k) (J:Bool×Int->OS S) (hQ: ∀y∈t.kids,∀g,hd y g=g ((ah y:Nat):Int)) (hQ': ∀b∈t.sys,∀y∈b.kids,∀g,hd y g=g ((ah y:Nat):Int)) (ht:OkT t):
  ∀ (r p:LT) (m a:Nat),t.kids=p++r->r.length<m->uO hd k J t m (a:Int) (p.length:Int)=J (true,((max (max a (az r)) (aN t.sys):Nat):Int)):=by
 obtain ⟨o1,o2,o3,o4,o5,o6,o7⟩:=ht.no
 intro r
 induction r with
 |nil=>
  intro p m a h hm
  obtain ⟨m,rfl,hm'⟩:=aw hm
  have hz:max a (az [])=a:=by rw [az];omega
  rw [hz]
  have:=fun more=>adY (more:=more) hk J hQ' o7 (fun b hb=>(ht.bi hb).1.2.2) t.sys [] k a rfl (by omega)
  simp only [uO,wB,eP h,ae]
  cases (t.kind==15)<;>grind [ae,al]
 |cons y r ih=>
  intro p m a h hm
  obtain ⟨m,rfl,hm'⟩:=aw hm
  obtain ⟨e1,e2,e3,e4⟩:=bM h (by omega)
  have hy:=hQ y (by grind)
  have hz:max a (az (y::r))=max (max a (ah y)) (az r):=by rw [az];omega
  rw [hz]
  have hw:(if ((ah y:Nat):Int)>(a:Int) then ((ah y:Nat):Int) else (a:Int))=((max a (ah y):Nat):Int):=by omega
  simp only [uO,wB,e1,al,e2,aV,aO,ap hk,mZ,xd,hy,e3,hw,dT,ae,ih (p++[y]) m (max a (ah y)) e4 hm']
end
theorem RR (t:Tm):OkT t-> ∀ {k:Nat} (J:Int->OS S),Fd k (ah t)->aA t<4611686018427387904->oB k t J=J ((aA t:Nat):Int):=by
 induction t using jr with
 |h t ih1 ih2=>
  intro ht k J hk hs
  obtain ⟨q,rfl,hq,hf⟩:=hk.pos' (h_ t)
  have hz:=DY t
  have:=aeH hq (fun r=>J r.2) (fun y hy g=>ih1 y hy (ht.ki hy) g (hf _ (ga hy)) (by have:=pn hy;omega)) (fun b hb y hy g=>ih2 b hb y hy ((ht.bi hb).2 y hy) g (hf _ (gA hb hy)) (by have:=pn hy;have:=zc hb;omega)) ht t.kids [] q 1 rfl (by have:=ht.no.2.2.2.2.2.1;omega) (by omega)
  grind [oB,SP,aO,Gk,JT,ap]
theorem aie (t:Tm):OkT t-> ∀ {k:Nat} (J:Int->OS S),Fd k (ah t)->ah t<4611686018427387904->oA k t J=J ((ah t:Nat):Int):=by
 induction t using jr with
 |h t ih1 ih2=>
  intro ht k J hk hs
  obtain ⟨q,rfl,hq,hf⟩:=hk.pos' (h_ t)
  have hz:=xt t
  have:=adX hq (fun r=>J (af .i64 (r.2+1))) (fun y hy g=>ih1 y hy (ht.ki hy) g (hf _ (ga hy)) (by have:=ga hy;omega)) (fun b hb y hy g=>ih2 b hb y hy ((ht.bi hb).2 y hy) g (hf _ (gA hb hy)) (by have:=gA hb hy;omega)) ht t.kids [] q 0 rfl (by have:=ht.no.2.2.2.2.2.1;omega)
  simp only [oA,SO,ap hq,aO,Gl,JU]
  grind [c5]
abbrev F4 (k:Nat):Prop:=4294970296<=k
theorem F4.f3 (h:F4 k):F3 k:=by have:4294970296<=k:=h;unfold F3;omega
def mS (n:Int) (t u:Tm):Except Int Tm:=gC t (gC u (ls n t u))
theorem ai2 (hk4:F4 k) {t u:Tm} (ht:In k t) (hu:In k u) {n:Int} (hn:0<=n/\n<=1000000) (J:Tm×Int->OS S):BW k t n u J=J (tE (mS n t u)):=by
 have hk:=hk4.f3
 simp only [BW,ap hk.fu,aO,jo ht.1 ht.2.1 ht.dep,jo hu.1 hu.2.1 hu.dep]
 unfold mS
 by_cases h1:ck t=0
 case neg=>rw [fZ h1,dr,al];unfold gC;rw [if_neg h1];rfl
 by_cases h2:ck u=0
 case neg=>rw [h1,show (!((0:Int)==0))=false from rfl,ae,fZ h2,dr,al];unfold gC;rw [if_pos h1,if_neg h2];rfl
 have ft:Fm t:=⟨ht.1,h1⟩
 have fu:Fm u:=⟨hu.1,h2⟩
 have hc:=K5 t n
 have z1:=ft.siz;have z2:=fu.siz;have z3:=po u;have d1:=ft.dep;have d2:=fu.dep
 have hk':4294970296<=k:=hk4
 have hif:(if 1099511627776<n then (1099511627776:Int) else n)=n:=if_neg (by omega)
 have hmul:ee n t*(aA u-1)<=20000*20000:=Nat.mul_le_mul (by omega) (by omega)
 have hw1:af .i64 ((aA u:Int)-1)=((aA u-1:Nat):Int):=by rw [c5 (by omega) (by omega)];omega
 have hw2:af .i64 ((ee n t:Int)*((aA u-1:Nat):Int))=((ee n t*(aA u-1):Nat):Int):=by
  rw [<-Int.natCast_mul];exact c5 (by omega) (by omega)
 have hw3:af .i64 ((aA t:Int)+((ee n t*(aA u-1):Nat):Int))=((aA t+ee n t*(aA u-1):Nat):Int):=by
  rw [<-Int.natCast_add];exact c5 (by omega) (by omega)
 rw [h1,h2,show (!((0:Int)==0))=false from rfl,ae,ae,decide_eq_false (by omega),ae]
 simp only [hif]
 rw [RR t ft.ok _ (ft.fd hk) (by omega),aiw t _ ft (ft.fd hk) (by omega),RR u fu.ok _ (fu.fd hk) (by omega),hw1,hw2,hw3]
 unfold gC
 rw [if_pos h1,if_pos h2]
 unfold ls
 by_cases h3:aA t+ee n t*(aA u-1)>20000
 ·rw [decide_eq_true (by omega),al,if_pos h3];rfl
 rw [decide_eq_false (by omega),ae,if_neg h3,ai3 fu (by omega) t _ ft (by omega) (by omega) (by omega),mC]
 cases hp:fS n u 0 0 t with
 |error e=>rfl
 |ok o=>
  rw [dz,bP]
  have hall:=(iX ft.2).2.2
  obtain ⟨q1,q2,q3,q4⟩:=OR fu (by omega) t (v:=0) (d:=0) (by omega) (by omega) (by omega) ft.ok hall hp
  show oA k o _=_
  rw [aie o q1 _ (hk.fd (by omega)) (by omega)]
  by_cases h4:ah o>200
  ·rw [decide_eq_true (by omega),al,if_pos h4];rfl
  ·rw [decide_eq_false (by omega),ae,if_neg h4];rfl
abbrev dE (r:LC) (l a:Tm):Tm:= .mk 14 0 au r [l,a] []
def kf (r:LC) (line:Tm):LB->Except Int (LB)
 |[]=> .ok []
 |b::l=>bE (eM (cm r 0 1)) fun phi=>bE (dm 0 1 0 1 line) fun ln=>bE (kf r line l) fun l'=> .ok (.mk b.face [dE phi ln (bN b)]::l')
def mu (r:LC) (line x:Tm):Except Int Tm:=
 if x.kind=24\/x.kind=25 then .ok x
 else if x.kind=26 then .ok (.mk 26 0 au x.r [dE r (line.kids.getD 0 noT) (x.kids.getD 0 noT)] [])
 else bE (dQ 0 [⟨0,0⟩] line) fun e=>bE (kf r line x.sys) fun l=> .ok (.mk 15 0 au [] [e,dE r line (x.kids.getD 1 noT)] l)
def wI (t:Tm):Tm×Bool×Int:=
 if ck t≠0 then (noT,false,ck t) else
 if t.kind=14/\(t.kids.getD 0 noT).kind=23/\((t.kids.getD 1 noT).kind=24\/(t.kids.getD 1 noT).kind=25\/(t.kids.getD 1 noT).kind=26\/(t.kids.getD 1 noT).kind=15) then m_ (mu t.r (t.kids.getD 0 noT) (t.kids.getD 1 noT)) else (noT,false,0)
theorem kJ {t:Tm} (h:t.kids.length=2): ∃a b,t.kids=[a,b]:=by
 match h':t.kids,h with
 |[a,b],_=>exact ⟨a,b,rfl⟩
theorem sZ {t:Tm} (h:t.kids.length=1): ∃a,t.kids=[a]:=by
 match h':t.kids,h with
 |[a],_=>exact ⟨a,rfl⟩
theorem Fm.sy {t:Tm} (h:Fm t) (hk:t.kind=15):(∀b∈t.sys,b.kids=[bN b]/\Fm (bN b)/\RX true b.face)/\t.sys.length<=20000:=by
 have ho:=h.own
 refine ⟨fun b hb=> ?_, ?_⟩
 ·have hl:b.kids.length=1:=by
   obtain ⟨kd,n,nm,r,ks,sys⟩:=t
   have hk:kd=15:=hk
   subst hk
   have ho:(_&&(sys.all (bR 15 24)&&_))=true:=ho
   simp only [ak] at ho
   have:=d7.1 ho.2.1 b hb
   unfold bR at this
   simp only [ak,decide_eq_true_eq] at this
   have h1:=this.1
   have:fQ 15=1:=rfl
   omega
  obtain ⟨f,ks⟩:=b
  match ks,hl with
  |[a],_=>exact ⟨rfl,h.brk hb (by simp [bN]),h.face hb⟩
 ·have h1:=h.siz
  have h2:=vu t
  have: ∀ {l:LB},(∀b∈l,b.kids≠[])->l.length<=aM l:=by
   intro l
   induction l with
   |nil=>intro _;simp
   |cons b l ih=>
    intro hl
    have:=ih fun b hb=>hl b (by simp [hb])
    have hb:=hl b (by simp)
    obtain ⟨f,ks⟩:=b
    cases ks with
    |nil=>exact absurd rfl hb
    |cons a ks=>rw [aM,jp,ax,dv];have:=po a;omega
  have:=this (l:=t.sys) fun b hb=>by
   intro he
   obtain ⟨kd,n,nm,r,ks,sys⟩:=t
   have hk:kd=15:=hk
   subst hk
   have ho:(_&&(sys.all (bR 15 24)&&_))=true:=ho
   simp only [ak] at ho
   have:=d7.1 ho.2.1 b hb
   unfold bR at this
   simp only [ak,decide_eq_true_eq] at this
   have h1:=this.1
   rw [he] at h1
   have:fQ 15=1:=rfl
   simp at h1;omega
  omega
def D8 {α:Type} (c:Int) (x:Except Int α):Except Int α:=if c=0 then x else .error c
theorem SI {α:Type} (x:Except Int α):D8 0 x=x:=rfl
theorem vw {α:Type} {c:Int} (h:c≠0) (x:Except Int α):D8 c x= .error c:=if_neg h
structure Sm (n:Nat) (t:Tm):Prop where
 ok:OkT t
 siz:aA t<=n
 dep:ah t<=300
theorem Fm.sm {t:Tm} (h:Fm t):Sm 20000 t:=⟨h.ok,h.siz,by have:=h.dep;omega⟩
theorem Sm.mono {n m:Nat} {t:Tm} (h:Sm n t) (hnm:n<=m):Sm m t:=⟨h.ok,by have:=h.siz;omega,h.dep⟩
theorem yw:Sm 20000 noT:=⟨Ov,by unfold noT;rw [aA,ax,aM];omega,by unfold noT;rw [ah,az,aN];omega⟩
theorem Sm.isIn {n:Nat} {t:Tm} (h:Sm n t) (hk:F3 k) (hn:n<1099511627776):In k t:=⟨h.ok,hk.fd (by have:=h.dep;omega),by have:=h.siz;omega⟩
structure Bs' (n:Nat) (l:LB):Prop where
 ok:a_ l
 siz:aM l<=l.length*n
 dep:aN l<=301
theorem FD (n:Nat):Bs' n []:=⟨by rw [a_];trivial,by rw [aM];simp,by rw [aN];omega⟩
theorem YL {n:Nat} {l:LB} (h:Bs' n l) {f:LC} (hf:av f/\f.length<1073741824) {t:Tm} (ht:Sm n t):Bs' n (l++[⟨f,[t]⟩]):=by
 refine ⟨afO h.ok ?_, ?_, ?_⟩
 ·rw [a_,gM,aU,aU,a_];exact ⟨⟨⟨hf.1,hf.2,by simp⟩,ht.ok,trivial⟩,trivial⟩
 ·rw [ajx,aM,jp,ax,ax,aM,List.length_append,List.length_singleton,Nat.succ_mul]
  have:=h.siz;have:=ht.siz;omega
 ·rw [Le,aN,ji,az,az,aN]
  have:=h.dep;have:=ht.dep;omega
theorem n1 {kd:Int} (hkd:0<=kd/\kd<=28) {r:LC} (hr:av r/\r.length<1073741824) {ks:LT} {sys:LB} {n m:Nat} (hks: ∀x∈ks,OkT x/\ah x<=299) (hl:ks.length<1000) (hz:ax ks<=n) (hs:a_ sys) (hsl:sys.length<1073741824) (hsd:aN sys<=299) (hsz:aM sys<=m):Sm (n+m+1) (.mk kd 0 au r ks sys):=by
 have hd:az ks<=299:=by
  have: ∀ {l:LT},(∀x∈l,ah x<=299)->az l<=299:=by
   intro l
   induction l with
   |nil=>intro _;rw [az];omega
   |cons t l ih=>intro h;rw [az];have:=h t (by simp);have:=ih fun x hx=>h x (by simp [hx]);omega
  exact this fun x hx=>(hks x hx).2
 refine ⟨?_, ?_, ?_⟩
 ·rw [OkT]
  exact ⟨⟨by unfold aR;omega,by unfold aR;omega,by decide,hr.1,hr.2,by omega,hsl⟩,okK_iff.2 fun x hx=>(hks x hx).1,hs⟩
 ·rw [aA];omega
 ·rw [ah];omega
theorem lH {r:LC} (hr:av r/\r.length<1073741824) {n m:Nat} {l a:Tm} (hl:Sm n l) (ha:Sm m a) (h1:ah l<=299) (h2:ah a<=299):Sm (n+m+1) (dE r l a):=by
 have:=n1 (kd:=14) (by omega) hr (ks:=[l,a]) (sys:=[]) (n:=n+m) (m:=0) (fun x hx=>by
  simp at hx
  rcases hx with rfl|rfl
  ·exact ⟨hl.ok,h1⟩
  ·exact ⟨ha.ok,h2⟩) (by simp) (by rw [ax,ax,ax];have:=hl.siz;have:=ha.siz;omega) (by rw [a_];trivial) (by simp) (by rw [aN];omega) (by rw [aM];omega)
 exact this
theorem lc {t:Tm} {a b:Tm} (h:t.kids=[a,b]):t.kids.getD 0 noT=a/\t.kids.getD 1 noT=b:=by rw [h];exact ⟨rfl,rfl⟩
theorem fj {fa:Bool} {f:LC} (h:RX fa f):av f/\f.length<1073741824:=⟨h.1.2,by have:=h.1.len;omega⟩
theorem Hi {f:LC} {b:Int} (h:RF f):av (cm f 0 b).1/\(cm f 0 b).1.length<1073741824:=by
 have hl:=aeU (f:=f) (i:=0) (b:=b)
 have:=h.len
 refine ⟨?_,by omega⟩
 by_cases h0:(cm f 0 b).2=0
 ·exact (lj h0).2
 ·rw [ae2 h0];exact fun c hc=>by cases hc
theorem ael (hk:F3 k) (J:Tm×Bool×Int->OS S) {t line x:Tm} {z:Int×Int×BA×LC×LT} {q:Tm×Int} (ht:RX true t.r) (hl:Fm line) (hx: ∀b∈x.sys,b.kids=[bN b]/\Fm (bN b)/\RX true b.face) (hxl:x.sys.length<=20000)
  (hin: ∀acc,Bs' 50000 acc->acc.length<=20000->aN acc<=299->In k (.mk 15 0 au [] [q.1,.mk z.1 z.2.1 z.2.2.1 z.2.2.2.1 z.2.2.2.2 []] acc)):
  ∀ (r p acc:LB) (m:Nat) (c:Int),x.sys=p++r->r.length<m->Bs' 50000 acc->aN acc<=299->acc.length+r.length<=20000->
   rX k J t z line q x m c acc (p.length:Int)=J (m_ (D8 c (bE (kf t.r line r) fun l'=> .ok (.mk 15 0 au [] [q.1,.mk z.1 z.2.1 z.2.2.1 z.2.2.2.1 z.2.2.2.2 []] (acc++l'))))):=by
 intro r
 induction r with
 |nil=>
  intro p acc m c h hm hb hd hacc
  obtain ⟨m,rfl,hm'⟩:=aw hm
  simp only [rX,Al,eP h,ae,ap hk.fu,ny,aO]
  rw [I0 hk (hin acc hb (by simpa using hacc) hd),kf,bP,eZ]
  by_cases hc:c=0
  ·subst hc;exact La J
  ·rw [vw hc];exact Zc hc J
 |cons b r ih=>
  intro p acc m c h hm hb hd hacc
  obtain ⟨m,rfl,hm'⟩:=aw hm
  obtain ⟨e1,e2,e3,e4⟩:=bM h (by omega)
  obtain ⟨hbk,hbf,hbx⟩:=hx b (by rw [h];simp)
  have hg:ao b.kids 0=some (bN b):=ld (n:=0) rfl (by rw [hbk];rfl)
  have hlk:=Hi (b:=1) ht.1
  rw [dv] at hacc
  have step: ∀ {phi:LC} {ln:Tm} {c':Int},av phi/\phi.length<1073741824->Sm 20000 ln->ah ln<=200->ag (bQ 1099511627776 acc.length [Br.mk b.face [dE phi ln (bN b)]].length) (fun _=>rX k J t z line q x m c' (acc++[Br.mk b.face [dE phi ln (bN b)]]) (((p++[b]).length:Nat):Int))=
    J (m_ (D8 c' (bE (kf t.r line r) fun l'=> .ok (.mk 15 0 au [] [q.1,.mk z.1 z.2.1 z.2.2.1 z.2.2.2.1 z.2.2.2.2 []] (acc++[Br.mk b.face [dE phi ln (bN b)]]++l'))))):=by
   intro phi ln c' hphi hln hdl
   rw [cX (by simp;omega)]
   have hs:=lH hphi hln hbf.sm (by omega) (by have:=hbf.dep;omega)
   refine ih (p++[b]) _ m c' e4 hm' (YL hb (fj hbx) (hs.mono (by omega))) ?_ (by rw [List.length_append,List.length_singleton];omega)
   rw [Le,aN,ji,az,az,aN]
   have:ah (dE phi ln (bN b))<=201:=by
    rw [ah,az,az,az,aN];have:=hbf.dep;omega
   omega
  simp only [rX,Al,e1,al,e2,aV,ap hk.fu,aO,Sd hk ht.1.2 (fj ht).2 (show (0:Int)<=1/\(1:Int)<1000 by omega),hg,iF,eV,e3]
  rw [y_ hk (b:=1) (fun _=>hl.isIn hk) (by omega)]
  by_cases hc:c=0
  ·subst hc
   rw [if_pos rfl,SI,kf]
   by_cases h1:(cm t.r 0 1).2=0
   ·rw [h1,sQ,qN h1,bP]
    have hd1:iG 1 1 line=dm 0 1 0 1 line:=if_pos hl.2
    rw [hd1]
    cases hh:dm 0 1 0 1 line with
    |error e=>
     have:=oZ line hh
     refine (step hlk yw (by unfold noT;rw [ah,az,aN];omega)).trans ?_
     rw [show (tE (.error e)).2=e from rfl,vw (by omega)];rfl
    |ok ln=>
     have fl:=ku (by omega) hl hh
     refine (step hlk fl.sm fl.dep).trans ?_
     rw [show (tE (.ok ln)).2=0 from rfl,SI,bP]
     cases kf t.r line r with
     |error e=>rfl
     |ok l'=>rw [bP,bP,bP,List.append_assoc];rfl
   ·rw [sS h1]
    refine (step hlk yw (by unfold noT;rw [ah,az,aN];omega)).trans ?_
    rw [vw h1,vC h1];rfl
  ·rw [if_neg hc,sS hc,vw hc]
   refine (step (phi:=[]) ⟨(fun c hc=>by cases hc),by simp⟩ yw (by unfold noT;rw [ah,az,aN];omega)).trans ?_
   rw [vw hc]
theorem gh {t:Tm} (h:Fm t) {kd:Int} (hk:t.kind=kd) {n:Nat} (hn:j4 kd=n):t.kids.length=n:=by
 have:=h.nk
 rw [hk,hn] at this;omega
theorem p9 {t a b:Tm} (h:t.kids=[a,b]):ao t.kids 0=some a/\ao t.kids 1=some b:=by rw [h];exact ⟨rfl,rfl⟩
theorem ahE {t:Tm} (h:Fm t):av t.r/\t.r.length<1073741824:=by
 obtain ⟨o1,o2,o3,o4,o5,o6,o7⟩:=h.ok.no
 exact ⟨o4,o5⟩
theorem KZ {r:LC} (hr:RX true r) {line x y w:Tm} (hl:line.kids=[y]) (hx:x.kids=[w]) (fl:Fm line) (fx:Fm x):Sm 40010 (.mk 26 0 au x.r [dE r y w] []):=by
 have fy:=fl.kid (x:=y) (by rw [hl];simp)
 have fw:=fx.kid (x:=w) (by rw [hx];simp)
 have h:=lH (fj hr) fy.sm fw.sm (by have:=fy.dep;omega) (by have:=fw.dep;omega)
 have hd:ah (dE r y w)<=201:=by rw [ah,az,az,az,aN];have:=fy.dep;have:=fw.dep;omega
 exact (n1 (kd:=26) (by omega) (ahE fx) (ks:=[dE r y w]) (sys:=[]) (n:=40001) (m:=0) (fun x hx=>by simp at hx;subst hx;exact ⟨h.ok,by omega⟩) (by simp) (by rw [ax,ax];have:=h.siz;omega) (by rw [a_];trivial) (by simp) (by rw [aN];omega) (by rw [aM];omega)).mono (by omega)
theorem SB {r:LC} (hr:RX true r) {e line a:Tm} (he:Sm 20000 e) (hed:ah e<=200) (fl:Fm line) (fa:Fm a) {acc:LB} (hb:Bs' 50000 acc) (hacc:acc.length<=20000) (hd:aN acc<=299):Sm 1000070000 (.mk 15 0 au [] [e,dE r line a] acc):=by
 have h:=lH (fj hr) fl.sm fa.sm (by have:=fl.dep;omega) (by have:=fa.dep;omega)
 have hd':ah (dE r line a)<=201:=by rw [ah,az,az,az,aN];have:=fl.dep;have:=fa.dep;omega
 have hz:aM acc<=1000000000:=fN hb.siz (fN (Nat.mul_le_mul_right _ hacc) (by omega))
 exact (n1 (kd:=15) (by omega) (r:=[]) ⟨(fun c hc=>by cases hc),by simp⟩ (ks:=[e,dE r line a]) (sys:=acc) (n:=60001) (m:=1000000000) (fun x hx=>by
  simp at hx
  rcases hx with rfl|rfl
  ·exact ⟨he.ok,by omega⟩
  ·exact ⟨h.ok,by omega⟩) (by simp) (by rw [ax,ax,ax];have:=h.siz;have:=he.siz;omega) hb.ok (by omega) hd hz).mono (by omega)
theorem aiN (hk:F3 k) {t:Tm} (ht:In k t) (J:Tm×Bool×Int->OS S):BH k t J=J (wI t):=by
 simp only [BH,JD,ap hk.fu,aO,jo ht.1 ht.2.1 ht.dep]
 unfold wI
 by_cases h0:ck t=0
 case neg=>rw [fZ h0,dr,al,if_pos h0];rfl
 rw [h0,show (!((0:Int)==0))=false from rfl,ae,if_neg (by simp)]
 have ft:Fm t:=⟨ht.1,h0⟩
 by_cases h14:t.kind=14
 case neg=>rw [beq_false_of_ne h14,dr,al,if_neg (fun h=>h14 h.1)];rfl
 rw [h14,show (!((14:Int)==14))=false from rfl,ae]
 obtain ⟨line,x,hkd⟩:=kJ (gh ft h14 (n:=2) rfl)
 obtain ⟨g0,g1⟩:=p9 hkd
 obtain ⟨d0,d1⟩:=lc hkd
 have fl:Fm line:=ft.kid (by rw [hkd];simp)
 have fx:Fm x:=ft.kid (by rw [hkd];simp)
 have hr:=ft.r14 h14
 rw [d0,d1,g0,aV]
 by_cases h23:line.kind=23
 case neg=>rw [beq_false_of_ne h23,dr,al,if_neg (fun h=>h23 h.2.1)];rfl
 rw [h23,show (!((23:Int)==23))=false from rfl,ae,pk t ht.1 _ ht.2.1,g0,aV,g1,aV]
 obtain ⟨y,hy⟩:=sZ (gh fl h23 (n:=1) rfl)
 have fin: ∀ {z:Tm},In k z-> ∀g:Tm×Bool×Int->OS S,hY k z 0 (fun r=>g (r.1,r.2.1,r.2.2.1))=g (m_ (.ok z)):=fun hz g=>by
  rw [I0 hk hz];exact La g
 by_cases h24:x.kind=24
 ·rw [h24,show ((24:Int)==24)=true from rfl,al,if_pos ⟨rfl,rfl,.inl rfl⟩,fin (fx.isIn hk)]
  unfold mu;rw [if_pos (.inl h24)]
 rw [beq_false_of_ne h24,ae]
 by_cases h25:x.kind=25
 ·rw [h25,show ((25:Int)==25)=true from rfl,al,if_pos ⟨rfl,rfl,.inr (.inl rfl)⟩,fin (fx.isIn hk)]
  unfold mu;rw [if_pos (.inr h25)]
 rw [beq_false_of_ne h25,ae]
 by_cases h26:x.kind=26
 ·obtain ⟨w,hw⟩:=sZ (gh fx h26 (n:=1) rfl)
  have e1:ao line.kids 0=some y:=by rw [hy];rfl
  have e2:ao x.kids 0=some w:=by rw [hw];rfl
  rw [h26,show ((26:Int)==26)=true from rfl,al,if_pos ⟨rfl,rfl,.inr (.inr (.inl rfl))⟩,e1,aV,e2,aV]
  simp only [iF]
  rw [fin ((KZ hr hy hw fl fx).isIn hk (by omega))]
  unfold mu;rw [if_neg (by omega),if_pos h26,hy,hw];rfl
 rw [beq_false_of_ne h26,ae]
 by_cases h15:x.kind=15
 case neg=>rw [beq_false_of_ne h15,ae,if_neg (fun h=>by omega)];rfl
 obtain ⟨u,a,hxk⟩:=kJ (gh fx h15 (n:=2) rfl)
 obtain ⟨gx0,gx1⟩:=p9 hxk
 obtain ⟨dx0,dx1⟩:=lc hxk
 have fa:Fm a:=fx.kid (by rw [hxk];simp)
 obtain ⟨sy,syl⟩:=fx.sy h15
 rw [h15,show ((15:Int)==15)=true from rfl,al,if_pos ⟨rfl,rfl,.inr (.inr (.inr rfl))⟩,Sb hk (fun _=>fl.isIn hk),gx1,aV]
 simp only [iF,sQ]
 have htk:aP 0 [⟨0,0⟩] line=dQ 0 [⟨0,0⟩] line:=if_pos fl.2
 rw [htk]
 have hsm:Sm 20000 (tE (dQ 0 [⟨0,0⟩] line)).1/\ah (tE (dQ 0 [⟨0,0⟩] line)).1<=200:=by
  cases hh:dQ 0 [⟨0,0⟩] line with
  |error e=>exact ⟨yw,by show ah noT<=200;unfold noT;rw [ah,az,aN];omega⟩
  |ok e=>
   obtain ⟨q1,q2,q3⟩:=vA fl hh
   exact ⟨⟨q1,q3,(show ah e<=300 by omega)⟩,q2⟩
 have:=ael hk J (t:=t) (line:=line) (x:=x) (z:=(14,0,au,t.r,[line,a])) (q:=tE (dQ 0 [⟨0,0⟩] line)) hr fl sy syl (fun acc hb hacc hd=>(SB hr hsm.1 hsm.2 fl fa hb hacc hd).isIn hk (by omega)) x.sys [] [] k (tE (dQ 0 [⟨0,0⟩] line)).2 rfl (by have:4294968296<=k:=hk;omega) (FD _) (by rw [aN];omega) (by simpa using syl)
 refine aq this ?_
 unfold mu
 rw [if_neg (by omega),if_neg h26,dx1]
 cases hh:dQ 0 [⟨0,0⟩] line with
 |error e=>
  have:=vz hh
  rw [show (tE (.error e)).2=e from rfl,vw (by omega)];rfl
 |ok e=>rfl


section
variable {hd:Tm->Int->Tm->Int->Int->(Tm->OS S)->OS S} {t u:Tm} {n v d:Int}
end

theorem aek (hk:Fu k) (J:Tm×Int->OS S) {c0 c2:Int} {c1:Tm} {ns:List Int} (hl:ns.length<1000) (hn: ∀x∈ns,0<=x):
  ∀ (r p:List Int) (m:Nat),ns=p++r->r.length<m->r_ k J c0 c1 c2 ns m (p.length:Int)=BO k c0 c1 c2 fun r4=>Pan.elim r4 (fun r4=>J (r4,0)) fun e5=>J (noT,e5):=by
 intro r
 induction r with
 |nil=>
  intro p m h hm
  obtain ⟨m,rfl,hm'⟩:=aw hm
  simp only [r_,Ao,eP h,ae,ap hk,aO];rfl
 |cons x r ih=>
  intro p m h hm
  obtain ⟨m,rfl,hm'⟩:=aw hm
  obtain ⟨e1,e2,e3,e4⟩:=bM h (by omega)
  have hx:=hn x (by grind)
  grind [r_,Ao,eJ]
theorem aiQ (hk:F3 k) {t:Tm} (ht:Fm t) {f b:Int} (hf:0<=f/\f<=1000000) (hb:0<=b/\b<=1000000) (J:Tm×Int->OS S):tN k t f b J=J (tE (dm b 0 f 0 t)):=by
 have hw:af .i64 (1000000-b)=1000000-b:=c5 (by omega) (by omega)
 have hl:=aek hk.fu J (c0:=b) (c2:=f) (c1:=t) (ns:=[f,b,1000000-b]) (by simp) (by grind) [f,b,1000000-b] [] k rfl (by grind)
 have hl:r_ k J b t f [f,b,1000000-b] k 0=_:=hl
 simp only [tN,ap hk.fu,aO,hw,BQ,Ec,jo ht.ok (ht.fd hk) (show ah t<1099511627776 by have:=ht.dep;omega),ht.2,hl,BO]
 rw [show ((0:Int)==0)=true from rfl,dT,ae,if_neg (by omega),DW (by omega) (by unfold aR;omega) t ht.ok ht.rows _ (ht.fd hk) (ht.vp (by omega) (by omega)),mC,mh _ J]
 rfl
def qP (f b:Int) (t:Tm):Except Int Tm:=gC t (dm b 0 f 0 t)
theorem ain (hk:F3 k) {t:Tm} (ht:In k t) {f b:Int} (hf:0<=f/\f<=1000000) (hb:0<=b/\b<=1000000) (J:Tm×Int->OS S):tN k t f b J=J (tE (qP f b t)):=by
 unfold qP gC
 by_cases h:ck t=0
 ·rw [if_pos h];exact aiQ hk ⟨ht.1,h⟩ hf hb J
 ·rw [if_neg h]
  simp only [tN,ap hk.fu,aO,BQ,Ec,jo ht.1 ht.2.1 ht.dep,fZ h,dr,al];rfl
theorem S7 {a b:Int} {t:Tm}: ∀e,qP a b t= .error e->0<e/\e<=1000:=fun e h=>oG (fun e h=>oZ t h) h
theorem agC {n:Int} {t u:Tm}: ∀e,mS n t u= .error e->0<e/\e<=1000:=fun e h=>oG (fun e h=>oG (fun e h=>OO h) h) h
theorem Sc (hk:F4 k) {t u:Tm} {c:Int} (ht:c=0->In k t/\In k u) (J:Tm×Int->OS S):w8 k t u c J=J (mM c (mS 0 t u)):=by
 simp only [w8,ap hk.f3.fu,ef,aO,lD]
 exact qm c (fun h g=>ai2 hk (ht h).1 (ht h).2 (by omega) g) (yu agC) J
theorem IZ (hk:F3 k) {line a:Tm} {sys:LB} {c:Int} (ht:c=0->In k line/\In k a/\In k (dR sys)) (hx: ∀e,ej [line,a,dR sys] (iD line a sys)= .error e->e≠0) (J:Tm×Int->OS S):rI k line a sys c J=J (mM c (ej [line,a,dR sys] (iD line a sys))):=by
 simp only [rI,ap hk.fu,ef,aO,lD]
 exact qm c (fun h g=>aid hk (ht h).1 (ht h).2.1 (ht h).2.2 g) hx J

def S6:LT->Except Int (LT)
 |[]=> .ok []
 |y::l=>bE (ep 0 1 y) fun y'=>bE (S6 l) fun l'=> .ok (y'::l')
abbrev Cm (kd:Int) (p:Tm) (l:LT) (a:Tm):Tm:= .mk kd 0 au [] (p::l++[a]) []
def LU (kd:Int) (b:Tm) (mid:LT):LB->Except Int (LB)
 |[]=> .ok []
 |y::l=>bE (S6 mid) fun m=>bE (LU kd b mid l) fun l'=> .ok (.mk y.face [Cm kd b m (bN y)]::l')
def mJ (t:Tm):Tm:=t.kids.getD (t.kids.length-1) noT
def C2 (t:Tm):LT:=(t.kids.take (t.kids.length-1)).drop 1

theorem YK {n:Nat} {l:LB} (h:Bs' n l) {f:LC} (hf:av f/\f.length<1073741824) {t:Tm} (ht:Sm n t):Bs' n (⟨f,[t]⟩::l):=by
 refine ⟨?_, ?_, ?_⟩
 ·rw [a_,gM,aU,aU];exact ⟨⟨⟨hf.1,hf.2,by simp⟩,ht.ok,trivial⟩,h.ok⟩
 ·rw [aM,jp,ax,ax,dv,Nat.succ_mul]
  have:=h.siz;have:=ht.siz;omega
 ·rw [aN,ji,az,az]
  have:=h.dep;have:=ht.dep;omega
theorem YX {r:LC} (hr:RX true r) {line:Tm} (fl:Fm line): ∀ {l l':LB},(∀b∈l,b.kids=[bN b]/\Fm (bN b)/\RX true b.face)->kf r line l= .ok l'->Bs' 50000 l'/\l'.length=l.length/\aN l'<=299:=by
 intro l
 induction l with
 |nil=>intro l' _ h;cases h;exact ⟨FD _,rfl,by rw [aN];omega⟩
 |cons b l ih=>
  intro l' hl h
  rw [kf] at h
  cases h1:eM (cm r 0 1) with
  |error e=>rw [h1] at h;cases h
  |ok phi=>
  rw [h1,bP] at h
  cases h2:dm 0 1 0 1 line with
  |error e=>rw [h2] at h;cases h
  |ok ln=>
  rw [h2,bP] at h
  cases h3:kf r line l with
  |error e=>rw [h3] at h;cases h
  |ok l2=>
  rw [h3,bP] at h
  injection h with h
  subst h
  obtain ⟨i1,i2,i3⟩:=ih (fun x hx=>hl x (by simp [hx])) h3
  obtain ⟨b1,b2,b3⟩:=hl b (by simp)
  have fln:=ku (by omega) fl h2
  have hphi:av phi/\phi.length<1073741824:=by
   have hlk:=Hi (b:=1) hr.1
   unfold eM at h1
   split at h1
   ·injection h1 with h1;subst h1;exact hlk
   ·cases h1
  have hs:=lH hphi fln.sm b2.sm (by have:=fln.dep;omega) (by have:=b2.dep;omega)
  refine ⟨YK i1 (fj b3) (hs.mono (by omega)),by rw [dv,dv,i2], ?_⟩
  rw [aN,ji,az,az]
  have:ah (dE phi ln (bN b))<=201:=by
   rw [ah,az,az,az,aN];have:=b2.dep;have:=fln.dep;omega
  omega
theorem YY (hk:F3 k) {t:Tm} (ft:Fm t) (h14:t.kind=14) (h23:(t.kids.getD 0 noT).kind=23) (hx:(t.kids.getD 1 noT).kind=24\/(t.kids.getD 1 noT).kind=25\/(t.kids.getD 1 noT).kind=26\/(t.kids.getD 1 noT).kind=15) {y:Tm} (h:mu t.r (t.kids.getD 0 noT) (t.kids.getD 1 noT)= .ok y):In k y/\0<y.kind:=by
 obtain ⟨line,x,hkd⟩:=kJ (gh ft h14 (n:=2) rfl)
 obtain ⟨d0,d1⟩:=lc hkd
 have fl:Fm line:=ft.kid (by rw [hkd];simp)
 have fx:Fm x:=ft.kid (by rw [hkd];simp)
 have hr:=ft.r14 h14
 rw [d0] at h23
 rw [d0,d1] at h
 rw [d1] at hx
 unfold mu at h
 split at h
 case isTrue hc=>injection h with h;subst h;exact ⟨fx.isIn hk,by omega⟩
 rename_i hc
 split at h
 case isTrue h26=>
  injection h with h;subst h
  obtain ⟨u,hu⟩:=sZ (gh fl h23 (n:=1) rfl)
  obtain ⟨w,hw⟩:=sZ (gh fx h26 (n:=1) rfl)
  have:=KZ hr hu hw fl fx
  rw [hu,hw]
  exact ⟨this.isIn hk (by omega),show (0:Int)<26 by decide⟩
 rename_i h26
 have h15:x.kind=15:=by omega
 obtain ⟨u,a,hxk⟩:=kJ (gh fx h15 (n:=2) rfl)
 obtain ⟨dx0,dx1⟩:=lc hxk
 have fa:Fm a:=fx.kid (by rw [hxk];simp)
 obtain ⟨sy,syl⟩:=fx.sy h15
 cases h1:dQ 0 [⟨0,0⟩] line with
 |error e=>rw [h1] at h;cases h
 |ok e=>
 rw [h1,bP] at h
 cases h2:kf t.r line x.sys with
 |error e=>rw [h2] at h;cases h
 |ok l=>
 rw [h2,bP,dx1] at h
 injection h with h
 subst h
 obtain ⟨q1,q2,q3⟩:=vA fl h1
 obtain ⟨b1,b2,b3⟩:=YX hr fl sy h2
 exact ⟨(SB hr ⟨q1,q3,(show ah e<=300 by omega)⟩ q2 fl fa b1 (by omega) b3).isIn hk (by omega),show (0:Int)<15 by decide⟩
end Go.Proofs.YtgajalidbabccaaGreatDoor
namespace Go.Proofs.YtgajalidbabccaaGreatDoor
open Go PI
set_option maxRecDepth 20000
def co (Φ:Nat->Prop) (f:LC):Prop:= ∀c∈f,∀j,hp c j\/hn c j->Φ j
theorem ma {Φ Ψ:Nat->Prop} {f:LC} (h:co Φ f) (hi: ∀j,Φ j->Ψ j):co Ψ f:=fun c hc j hj=>hi j (h c hc j hj)
theorem jI (Φ:Nat->Prop):co Φ []:=fun c hc=>by cases hc
theorem Hn {Φ:Nat->Prop} {f g:LC} (h:co Φ f) (hs: ∀c∈g,c∈f):co Φ g:=fun c hc=>h c (hs c hc)
theorem afh {Φ:Nat->Prop} {f g:LC} (h:co Φ f) (h':co Φ g):co Φ (f++g):=fun c hc=>(er.1 hc).elim (h c) (h' c)
theorem sP {Φ:Nat->Prop} {f:LC} (h:co Φ f):co Φ (du f).1:=by
 unfold du
 split
 ·split
  ·exact jI _
  ·exact Hn h fun c hc=>(mem_mins.1 hc).1
 ·exact jI _
theorem M7 {Φ:Nat->Prop} {f g:LC} (h:co Φ f) (h':co Φ g):co Φ (meets f g):=fun c hc j hj=>by
 unfold meets at hc
 obtain ⟨a,ha,hc⟩:=List.mem_flatMap.1 hc
 obtain ⟨b,hb,rfl⟩:=dI.1 hc
 rw [ack,acg] at hj
 rcases hj with (hj|hj)|(hj|hj)
 ·exact h a ha j (.inl hj)
 ·exact h' b hb j (.inl hj)
 ·exact h a ha j (.inr hj)
 ·exact h' b hb j (.inr hj)
theorem lits_one {Φ:Nat->Prop} {c:Cl}:co Φ [c]↔ ∀j,hp c j\/hn c j->Φ j:=⟨fun h=>h c (by simp),fun h d hd=>by simp at hd;subst hd;exact h⟩
theorem CW {Φ:Nat->Prop} {f g:LC} (h:co Φ f) (h':co Φ g):co Φ (jG f g).1:=sP (afh h h')
theorem Hm {Φ:Nat->Prop} {f g:LC} (h:co Φ f) (h':co Φ g):co Φ (jK f g).1:=sP (M7 h h')
theorem Hl {Φ:Nat->Prop} {f:LC} (h:co Φ f):co Φ (sM f).1:=sP (Hn h fun c hc=>(AT hc).1)
theorem Hk {Φ:Nat->Prop} {step:LC->Cl->LC×Int}: ∀ {l h:LC},(∀c∈l,∀h,co Φ h->co Φ (step h c).1)->co Φ h->co Φ (dP step h l).1:=by
 intro l
 induction l with
 |nil=>intro h _ hh;exact hh
 |cons c l ih=>
  intro h hs hh
  unfold dP
  split
  ·exact ih (fun d hd=>hs d (by simp [hd])) (hs c (by simp) h hh)
  ·first|exact jI _|exact hs c (by simp) h hh
theorem afl {Φ:Nat->Prop} {c:Cl} (hc:RC c) (h: ∀j,hp c j\/hn c j->Φ j):co Φ (s9 c).1:=by
 refine sP fun d hd j hj=> ?_
 have hl: ∀ {s:Int} {x:Int},x∈mK s-> ∃n:Nat,n<24/\s.toNat.testBit n=true/\x=n:=by
  intro s x hx
  unfold mK ints at hx
  obtain ⟨n,hn,rfl⟩:=dI.1 hx
  have:=mem_bitsN.1 hn
  exact ⟨n,this.1,this.2,rfl⟩
 unfold uY at hd
 rcases er.1 hd with hd|hd
 ·obtain ⟨x,hx,rfl⟩:=dI.1 hd
  obtain ⟨n,h1,h2,rfl⟩:=hl hx
  rcases hj with hj|hj
  ·exact absurd hj (acl n h1 j)
  ·rw [(ach n h1 j).1 hj];exact h n (.inl h2)
 ·obtain ⟨x,hx,rfl⟩:=dI.1 hd
  obtain ⟨n,h1,h2,rfl⟩:=hl hx
  rcases hj with hj|hj
  ·rw [(acm n h1 j).1 hj];exact h n (.inr h2)
  ·exact absurd hj (aci n h1 j)
theorem afk {Φ:Nat->Prop} {f:LC} (hf:RF f) (h:co Φ f):co Φ (ij f).1:=
 Hk (fun c hc g hg=>Hm hg (afl (hf.rc hc) (h c hc))) (lits_one.2 fun j hj=>by rcases hj with hj|hj<;>simp [hp,hn] at hj)
theorem ab1 {c:Cl} {n:Nat} (hn24:n<24) {j:Nat} (h:hp (gE n c) j\/hn (gE n c) j):(hp c j\/hn c j)/\j≠n:=by
 unfold hp hn gE at h
 rw [Tt hn24,Tt hn24] at h
 simp only [ak,j9,decide_eq_false_iff_not] at h
 exact h.elim (fun h=>⟨.inl h.1.1,h.2⟩) fun h=>⟨.inr h.1.1,h.2⟩
theorem afm {fa:Bool} {Φ:Nat->Prop} {n:Nat} (hn24:n<24) {f r:LC} (hr:RF r) (h:co (fun j=>j≠n->Φ j) f) (h':co Φ r):co Φ (yG fa f n r).1:=by
 have hg: ∀c∈f,co Φ [gE n c]:=fun c hc=>lits_one.2 fun j hj=>by
  obtain ⟨h1,h2⟩:=ab1 hn24 hj
  exact h c hc j h1 h2
 have hz:co Φ (ij r).1:=afk hr h'
 unfold yG
 cases fa
 ·show co Φ (mf f n r).1
  unfold mf
  split
  ·refine Hk (fun c hc g hh=> ?_) (jI _)
   have hA:co Φ (kx n r c).1:=by
    unfold kx
    split
    ·exact Hm (hg c hc) h'
    ·exact hg c hc
   have hB:co Φ (mT n r c (kx n r c).1).1:=by
    unfold mT
    split
    ·split
     ·exact Hm hA hz
     ·exact jI _
    ·exact hA
   unfold nT
   split
   ·split
    ·exact CW hh hB
    ·exact jI _
   ·exact jI _
  ·exact jI _
 ·show co Φ (me f n r).1
  unfold me
  split
  ·refine Hk (fun c hc g hh=> ?_) (jI _)
   have hG: ∀ {q:LC×Int},co Φ q.1->co Φ (lu n c g q).1:=fun hq=>by
    unfold lu
    split
    ·split
     ·exact CW hh (Hl (M7 (hg c hc) hq))
     ·exact jI _
    ·exact jI _
   unfold jL
   split
   ·refine hG ?_
    unfold mR
    split
    ·exact Hl h'
    ·exact jI _
   ·split
    ·refine hG ?_
     unfold nQ
     split
     ·split
      ·exact Hl hz
      ·exact jI _
     ·exact jI _
    ·exact CW hh (hg c hc)
  ·exact jI _
theorem afi {Φ:Nat->Prop} {f:LC} (hf:RF f) {n:Nat} (hn24:n<24) (h:co (fun x=>x≠n->Φ (rJ n x)) f):co Φ (cD n f):=by
 unfold cD
 refine sP fun c hc j hj=> ?_
 obtain ⟨d,hd,rfl⟩:=dI.1 hc
 rcases hj with hj|hj
 ·obtain ⟨x,hx,he,rfl⟩:=(Ca hn24 (hf.rc hd).1 j).1 hj
  exact h d hd x (.inl hx) he
 ·obtain ⟨x,hx,he,rfl⟩:=(Ca hn24 (hf.rc hd).2 j).1 hj
  exact h d hd x (.inr hx) he
theorem CX {Φ:Nat->Prop} {f:LC} (hf:RF f) {n b:Nat} (h0:(cm f n b).2=0) (h:co (fun x=>Φ (il n b x)) f):co Φ (cm f n b).1:=by
 unfold cm at h0 ⊢
 rw [if_pos hf.right] at h0 ⊢
 split at h0
 case isFalse h1=>exact absurd h0 h1
 rename_i h1
 rw [if_pos h1]
 obtain ⟨e1,e2⟩:=abT h1
 refine sP ?_
 rw [e1,fq]
 intro c hc j hj
 obtain ⟨d,hd,rfl⟩:=dI.1 hc
 obtain ⟨q1,q2,q3⟩:=ae0 (e2 d hd)
 rw [q3] at hj
 rcases hj with hj|hj
 ·obtain ⟨x,hx,rfl⟩:=(M5 (hf.rc hd).1 q1 j).1 hj
  exact h d hd x (.inl hx)
 ·obtain ⟨x,hx,rfl⟩:=(M5 (hf.rc hd).2 q2 j).1 hj
  exact h d hd x (.inr hx)
theorem jk {f:LC} (hf:RF f) {d:Int}:a7 f d=true↔co (fun j=>(j:Int)<d) f:=by
 unfold a7
 rw [decide_eq_true_eq]
 have: ∀i:Nat,i∈ke (nC f)↔i<24/\ ∃c∈f,hp c i\/hn c i:=fun i=>by
  rw [mem_bitsN,B_]
  unfold qO hp hn
  simp only [ak,List.any_eq_true,Bool.or_eq_true,decide_eq_true_eq]
  exact ⟨fun h=>⟨h.1,h.2.1⟩,fun h=>⟨h.1,h.2,h.1⟩⟩
 constructor
 ·intro h c hc j hj
  exact h j ((this j).2 ⟨hj.elim (Ix (hf.rc hc)) (Iw (hf.rc hc)),c,hc,hj⟩)
 ·intro h i hi
  obtain ⟨_,c,hc,hj⟩:=(this i).1 hi
  exact h c hc i hj
theorem C0 {f g:LC} {d b D:Int} (hf:RF f) (hd:0<=d) (hb:0<=b) (hl:a7 f D=true) (h:eI d b f= .ok g):a7 g (D+b)=true:=by
 have rg:=yW hf h
 obtain ⟨n,rfl⟩:=C5 hd
 obtain ⟨m,rfl⟩:=C5 hb
 rw [jk hf] at hl
 rw [jk rg]
 unfold eI at h
 split at h
 ·injection h with h;subst h
  exact ma hl fun j hj=>by omega
 ·obtain ⟨h0,rfl⟩:=j7 h
  exact CX hf h0 (ma hl fun j hj=>by unfold il;split<;>omega)
theorem mO {f:LC} {d e:Int} (hf:RF f) (h:a7 f d=true) (hde:d<=e):a7 f e=true:=by
 rw [jk hf] at h ⊢
 exact ma h fun j hj=>by omega
theorem Nb {fa:Bool} {r f g:LC} {n D:Int} (hf:RF f) (hr:RF r) (hn:0<=n) (hnD:n<=D) (hl:a7 f (D+1)=true) (hlr:co (fun j=>j≠0/\(j:Int)<D-n+1) r) (h:gD 0 r fa n f= .ok g):a7 g D=true:=by
 obtain ⟨n,rfl⟩:=C5 hn
 rw [xH] at h
 obtain ⟨m,h1,h⟩:=ar h
 injection h with h;subst h
 have rm:=yX hf h1
 rw [Int.zero_add]
 by_cases hn24:n<24
 ·have hm:co (fun j=>j≠n->((j:Int)<D+1)) m/\(uP f n->m=f)/\(¬uP f n->co (fun j=>j≠n/\(j:Int)<D+1) m):=by
   rw [jk hf] at hl
   unfold bZ at h1
   rw [Int.zero_add] at h1
   split at h1
   ·rename_i hh
    obtain ⟨s,es,h1⟩:=ar h1
    obtain ⟨h0,rfl⟩:=j7 es
    obtain ⟨h2,rfl⟩:=j7 h1
    have hls:co (fun j=>j≠n/\(j:Int)<D+1) (cm r 0 n).1:=CX (n:=0) hr h0 (ma hlr fun j hj=>by unfold il;rw [if_neg (by omega)];omega)
    have:=afm (fa:=fa) (f:=f) hn24 (lj h0) (ma hl fun j hj (hne:j≠n)=>⟨hne,hj⟩) hls
    exact ⟨ma this fun j hj _=>hj.2,fun h=>absurd h (has_dims.1 hh).2,fun _=>this⟩
   ·rename_i hh
    injection h1 with h1;subst h1
    exact ⟨ma hl fun j hj _=>hj,fun _=>rfl,fun h=>absurd (has_dims.2 ⟨hn24,h⟩) hh⟩
  rw [jk (FP rm.len)]
  refine afi rm hn24 ?_
  by_cases hk:uP f n
  ·have e:=hm.2.1 hk
   subst e
   refine ma hm.1 fun x hx hxn=> ?_
   have:=hx hxn
   unfold rJ;split<;>omega
  ·refine ma (hm.2.2 hk) fun x hx _=> ?_
   have:=hx.1;have:=hx.2
   unfold rJ;split<;>omega
 ·rw [K9 rm (by omega)]
  have:m=f:=by
   unfold bZ at h1
   rw [Int.zero_add,if_neg (fun h=>hn24 (has_dims.1 h).1)] at h1
   injection h1 with h1;exact h1.symm
  subst this
  rw [jk rm] at hl ⊢
  refine fun c hc j hj=> ?_
  have:j<24:=hj.elim (Ix (rm.rc hc)) (Iw (rm.rc hc))
  omega
mutual
def aZ:Tm->Int
 | .mk kd _ _ _ ks sys=>max (dA kd 0 ks) (dO sys)
def dA (kd:Int) (i:Nat):LT->Int
 |[]=>0
 |t::l=>max (bL kd i+aZ t) (dA kd (i+1) l)
def dO:LB->Int
 |[]=>0
 |b::l=>max (lP b) (dO l)
def lP:Br Tm->Int
 | .mk _ ks=>ei ks
def ei:LT->Int
 |[]=>0
 |t::l=>max (1+aZ t) (ei l)
end
theorem Fr (kd:Int): ∀ (l:LT) (i:Nat),0<=dA kd i l:=by
 intro l
 induction l with
 |nil=>intro i;rw [dA];decide
 |cons t l ih=>intro i;rw [dA];have:=ih (i+1);omega
theorem mt (t:Tm):0<=aZ t:=by
 cases t;rw [aZ];rename_i kd _ _ _ ks _;have:=Fr kd ks 0;omega
abbrev d5 (V D:Int) (t:Tm):Prop:=aE true V D t=true
abbrev zx (bd:Bool) (vb db:Int) (x:Tm):Prop:= ∀ {v d V D:Int} {t':Tm},0<=d->0<=V->OkT x->RowsT x->aE bd V D x=true->(bd=true->D+db+aZ x<=24)->dm vb db v d x= .ok t'->aE bd (V+vb) (D+db) t'=true
section
variable {bd:Bool} {vb db kd:Int}
theorem akz {V v:Int} (hV:0<=V) (hvb:0<=vb) (hv:0<=v):cq (V+vb) v=cq V v+vb/\0<=cq V v:=by
 unfold cq;rw [if_neg (by omega),if_neg (by omega)];omega
theorem ajo (hvb:0<=vb): ∀ {l l':LT} {i:Nat} {v d V D:Int},(∀x∈l,zx bd vb db x)->0<=d->0<=V->aU l->eN l->bO bd V D kd i l=true->(bd=true->D+db+dA kd i l<=24)->iJ vb db v d kd i l= .ok l'->bO bd (V+vb) (D+db) kd i l'=true:=by
 intro l
 induction l with
 |nil=>intro l' i v d V D _ _ _ _ _ _ _ h;rw [iJ] at h;injection h with h;subst h;rw [bO]
 |cons t l ih=>
  intro l' i v d V D h hd hV ho hr ha hb hl
  rw [iJ] at hl
  obtain ⟨t',e1,hl⟩:=ar hl
  obtain ⟨m,e2,hl⟩:=ar hl
  injection hl with hl;subst hl
  rw [aU] at ho
  rw [eN] at hr
  rw [bO,ak] at ha ⊢
  rw [dA] at hb
  have:=iz kd i;have:=pG kd i
  obtain ⟨q1,q2⟩:=akz (v:=b8 kd i) hV hvb (by omega)
  refine ⟨?_,ih (fun x hx=>h x (by simp [hx])) hd hV ho.2 hr.2 ha.2 (fun e=>by have:=hb e;omega) e2⟩
  have:=h t (by simp) (by omega) q2 ho.1 hr.1 ha.1 (fun e=>by have:=hb e;omega) e1
  rw [q1,show D+db+bL kd i=D+bL kd i+db by omega];exact this
theorem ajp (hvb:0<=vb): ∀ {l l':LT} {v d V D:Int},aS kd<=1->(∀x∈l,zx bd vb db x)->0<=d->0<=V->aU l->eN l->cQ bd V D kd l=true->(bd=true->D+db+ei l<=24)->iL vb db v d kd l= .ok l'->cQ bd (V+vb) (D+db) kd l'=true:=by
 intro l
 induction l with
 |nil=>intro l' v d V D _ _ _ _ _ _ _ _ h;rw [iL] at h;injection h with h;subst h;rw [cQ]
 |cons t l ih=>
  intro l' v d V D hm h hd hV ho hr ha hb hl
  rw [iL] at hl
  obtain ⟨t',e1,hl⟩:=ar hl
  obtain ⟨m,e2,hl⟩:=ar hl
  injection hl with hl;subst hl
  rw [aU] at ho
  rw [eN] at hr
  rw [cQ,ak] at ha ⊢
  rw [ei] at hb
  have:=iZ kd
  refine ⟨?_,ih hm (fun x hx=>h x (by simp [hx])) hd hV ho.2 hr.2 ha.2 (fun e=>by have:=hb e;omega) e2⟩
  have:=h t (by simp) (by omega) hV ho.1 hr.1 ha.1 (fun e=>by have:=hb e;omega) e1
  rw [show D+db+aS kd=D+aS kd+db by omega];exact this
theorem ajq (hvb:0<=vb): ∀ {l l':LB} {v d V D:Int},(∀b∈l,∀x∈b.kids,zx bd vb db x)->0<=d->0<=V->a_ l->gO l->aY bd V D kd l=true->(bd=true->D+db+dO l<=24)->fI vb db v d kd l= .ok l'->aY bd (V+vb) (D+db) kd l'=true:=by
 intro l
 induction l with
 |nil=>intro l' v d V D _ _ _ _ _ _ _ h;rw [fI] at h;injection h with h;subst h;rw [aY]
 |cons b l ih=>
  intro l' v d V D h hd hV ho hr ha hb hl
  rw [fI] at hl
  obtain ⟨b',e1,hl⟩:=ar hl
  obtain ⟨m,e2,hl⟩:=ar hl
  injection hl with hl;subst hl
  obtain ⟨f,ks⟩:=b
  rw [sO] at e1
  obtain ⟨f',e3,e1⟩:=ar e1
  obtain ⟨ks',e4,e1⟩:=ar e1
  injection e1 with e1;subst e1
  rw [a_,gM] at ho
  rw [gO,og] at hr
  rw [aY,iQ,ak] at ha ⊢
  rw [dO,lP] at hb
  have hb:bd=true->D+db+max (ei ks) (dO l)<=24:=hb
  exact ⟨ajp hvb (iZ kd).2 (h ⟨f,ks⟩ (by simp)) hd hV ho.1.2 hr.1.2 ha.1 (fun e=>by have:=hb e;show D+db+ei ks<=24;omega) e4,ih (fun b hb=>h b (by simp [hb])) hd hV ho.2 hr.2 ha.2 (fun e=>by have:=hb e;omega) e2⟩
theorem aeS: ∀ {l l':LT} {v d:Int} {i:Nat},iJ vb db v d kd i l= .ok l'->l'.length=l.length:=by
 intro l
 induction l<;>grind [iJ,->ar]
theorem aeW: ∀ {l l':LB} {v d:Int},fI vb db v d kd l= .ok l'->l'.length=l.length:=by
 intro l
 induction l<;>grind [fI,->ar]
theorem aeV: ∀ {l l':LT} {v d:Int},iL vb db v d kd l= .ok l'->l'.length=l.length:=by
 intro l
 induction l<;>grind [iL,->ar]
theorem YJ (hdb:0<=db): ∀ {l l':LB} {v d D:Int},0<=d->a_ l->l.all (bR kd D)=true->fI vb db v d kd l= .ok l'->l'.all (bR kd (D+db))=true:=by
 intro l
 induction l with
 |nil=>intro l' v d D _ _ _ h;rw [fI] at h;injection h with h;subst h;rfl
 |cons b l ih=>
  intro l' v d D hd ho ha hl
  rw [fI] at hl
  obtain ⟨b',e1,hl⟩:=ar hl
  obtain ⟨m,e2,hl⟩:=ar hl
  injection hl with hl;subst hl
  obtain ⟨f,ks⟩:=b
  rw [sO] at e1
  obtain ⟨f',e3,e1⟩:=ar e1
  obtain ⟨ks',e4,e1⟩:=ar e1
  injection e1 with e1;subst e1
  rw [a_,gM] at ho
  rw [iO,ak] at ha ⊢
  refine ⟨?_,ih hd ho.2 ha.2 e2⟩
  have h1:=ha.1
  unfold bR at h1 ⊢
  simp only [ak,decide_eq_true_eq] at h1 ⊢
  have hx:=(lz ho.1.1.1).1 h1.2.1
  exact ⟨by rw [aeV e4];exact h1.1,vm e3 ho.1.1.1 h1.2.1,C0 hx.1 hd hdb h1.2.2 e3⟩
theorem Sv (hvb:0<=vb) (hdb:0<=db) (t:Tm):zx bd vb db t:=by
 induction t using gi with
 |h kd n nm r ks sys ih1 ih2=>
  intro v d V D t' hd hV hok hro ha hb h
  have hrx:=hro
  rw [RowsT] at hro
  rw [dm] at h
  split at h
  ·cases h
  obtain ⟨r1,e1,h⟩:=ar h
  obtain ⟨ks1,e2,h⟩:=ar h
  obtain ⟨sys1,e3,h⟩:=ar h
  injection h with h;subst h
  rw [aE] at ha ⊢
  rw [aZ] at hb
  obtain ⟨o1,o2,o3,o4,o5,o6,o7⟩:=hok.node
  have hok':=hok
  rw [OkT] at hok'
  have b0:=Fr kd ks 0
  simp only [ak] at ha ⊢
  obtain ⟨q1,q2,q3,q4⟩:=ha
  refine ⟨?_, ?_,ajo hvb ih1 hd hV hok'.2.1 hro.2.1 q3 (fun e=>by have:=hb e;omega) e2,ajq hvb ih2 hd hV hok'.2.2 hro.2.2 q4 (fun e=>by have:=hb e;omega) e3⟩
  ·cases bd with
   |false=>rfl
   |true=>
    have:=hb rfl
    rw [decide_eq_false (by omega)];rfl
  unfold dL at q2 ⊢
  simp only [ak,decide_eq_true_eq] at q2 ⊢
  obtain ⟨⟨a1,a2,a3,a4⟩,a5⟩:=q2
  refine ⟨⟨by rw [aeS e2];exact a1, ?_,a3,by rw [aeW e3];exact a4⟩, ?_⟩
  ·by_cases c:kd=1
   ·exact .inl c
   ·exact .inr (by rw [if_neg (fun h=>c h.1)];exact a2.resolve_left c)
  ·have hlow:=fun h=>C0 (D:=D) hro.1.1 hd hdb h e1
   by_cases c1:kd=1
   ·rw [if_pos c1] at a5 ⊢
    simp only [ak,decide_eq_true_eq] at a5 ⊢
    refine ⟨DT e1 a5.1, ?_, ?_⟩
    ·split<;>omega
    ·split<;>omega
   ·rw [if_neg c1] at a5 ⊢
    by_cases c2:kd=2
    ·rw [if_pos c2] at a5 ⊢
     simp only [ak,decide_eq_true_eq] at a5 ⊢
     exact ⟨DT e1 a5.1,a5.2⟩
    ·rw [if_neg c2] at a5 ⊢
     by_cases c3:kd=13\/kd=21\/kd=26
     ·rw [if_pos c3,ak] at a5 ⊢
      exact ⟨IF e1 o4 a5.1,hlow a5.2⟩
     ·rw [if_neg c3] at a5 ⊢
      by_cases c4:kd=14
      ·rw [if_pos c4,ak] at a5 ⊢
       exact ⟨vm e1 o4 a5.1,hlow a5.2⟩
      ·rw [if_neg c4] at a5 ⊢
       simp only [ak,decide_eq_true_eq] at a5 ⊢
       exact ⟨YJ hdb hd hok'.2.2 a5.1 e3,DT e1 a5.2⟩
end
theorem Zb {fa:Bool} {f:LC} (hf:RX fa f) {n:Int} (hn:0<=n):RX fa (cD n f):=by
 obtain ⟨n,rfl⟩:=C5 hn
 by_cases hn24:n<24
 ·refine ⟨FP hf.1.len,fun e c hc=> ?_⟩
  have hm:c∈f.map (my n):=by
   rw [(xS (A1 (j:=n) hf.1.len)).1] at hc
   exact (mem_mins.1 hc).1
  obtain ⟨d,hd,rfl⟩:=dI.1 hm
  refine calm_bits.2 fun j hj=> ?_
  obtain ⟨x,hx,hxn,h1⟩:=(Ca hn24 (hf.1.rc hd).1 j).1 hj.1
  obtain ⟨y,hy,hyn,h2⟩:=(Ca hn24 (hf.1.rc hd).2 j).1 hj.2
  have:x=y:=by unfold rJ at h1 h2;split at h1<;>split at h2<;>omega
  subst this
  exact calm_bits.1 (hf.2 e d hd) x ⟨hx,hy⟩
 ·rw [K9 hf.1 (by omega)];exact hf
theorem IP {fa:Bool} {r f g:LC} {n:Int} (hf:RX fa f) (hr:RF r) (hn:0<=n) (h:gD 0 r fa n f= .ok g):RX fa g:=by
 rw [xH] at h
 obtain ⟨m,h1,h⟩:=ar h
 injection h with h;subst h
 rw [Int.zero_add]
 refine Zb ?_ hn
 unfold bZ at h1
 split at h1
 ·obtain ⟨s,es,h1⟩:=ar h1
  obtain ⟨h0,rfl⟩:=j7 es
  obtain ⟨h2,rfl⟩:=j7 h1
  exact agP hf.1.2 (lj h0).2 h2
 ·injection h1 with h1;subst h1;exact hf
theorem GJ {r f g:LC} {fa:Bool} {n:Int} (hf:f.length=0) (h:gD 0 r fa n f= .ok g):g.length=0:=by
 rw [List.length_eq_zero_iff.1 hf] at h
 rw [abQ h];rfl
abbrev zB (bd:Bool) (r:LC) (c:Int) (x:Tm):Prop:= ∀ {n V D:Int} {t':Tm},0<=n->n<=D->D-n=c->OkT x->RowsT x->aE bd V (D+1) x=true->b7 (gD 0 r false) (gD 0 r true) n x= .ok t'->aE bd V D t'=true
section
variable {bd:Bool} {r:LC} {c kd:Int}
theorem ajX: ∀ {l l':LT} {i:Nat} {n V D:Int},(∀x∈l,zB bd r c x)->0<=n->n<=D->D-n=c->aU l->eN l->bO bd V (D+1) kd i l=true->dq (gD 0 r false) (gD 0 r true) n kd i l= .ok l'->bO bd V D kd i l'=true/\l'.length=l.length:=by
 intro l
 induction l with
 |nil=>intro l' i n V D _ _ _ _ _ _ _ h;rw [dq] at h;injection h with h;subst h;exact ⟨by rw [bO],rfl⟩
 |cons t l ih=>
  intro l' i n V D h hn hD hc ho hr ha hl
  rw [dq] at hl
  obtain ⟨t',e1,hl⟩:=ar hl
  obtain ⟨m,e2,hl⟩:=ar hl
  injection hl with hl;subst hl
  rw [aU] at ho
  rw [eN] at hr
  rw [bO,ak] at ha ⊢
  have:=iz kd i
  obtain ⟨q1,q2⟩:=ih (fun x hx=>h x (by simp [hx])) hn hD hc ho.2 hr.2 ha.2 e2
  refine ⟨⟨h t (by simp) (n:=n+bL kd i) (D:=D+bL kd i) (by omega) (by omega) (by omega) ho.1 hr.1 ?_ e1,q1⟩,by rw [dv,dv,q2]⟩
  rw [show D+bL kd i+1=D+1+bL kd i by omega];exact ha.1
theorem ajY: ∀ {l l':LT} {n V D:Int},(∀x∈l,zB bd r c x)->0<=n->n<=D->D-n=c->aU l->eN l->cQ bd V (D+1) kd l=true->dB (gD 0 r false) (gD 0 r true) n kd l= .ok l'->cQ bd V D kd l'=true/\l'.length=l.length:=by
 intro l
 induction l with
 |nil=>intro l' n V D _ _ _ _ _ _ _ h;rw [dB] at h;injection h with h;subst h;exact ⟨by rw [cQ],rfl⟩
 |cons t l ih=>
  intro l' n V D h hn hD hc ho hr ha hl
  rw [dB] at hl
  obtain ⟨t',e1,hl⟩:=ar hl
  obtain ⟨m,e2,hl⟩:=ar hl
  injection hl with hl;subst hl
  rw [aU] at ho
  rw [eN] at hr
  rw [cQ,ak] at ha ⊢
  have:=iZ kd
  obtain ⟨q1,q2⟩:=ih (fun x hx=>h x (by simp [hx])) hn hD hc ho.2 hr.2 ha.2 e2
  refine ⟨⟨h t (by simp) (n:=n+aS kd) (D:=D+aS kd) (by omega) (by omega) (by omega) ho.1 hr.1 ?_ e1,q1⟩,by rw [dv,dv,q2]⟩
  rw [show D+aS kd+1=D+1+aS kd by omega];exact ha.1
theorem ajZ (hr:RF r) (hlr:co (fun j=>j≠0/\(j:Int)<c+1) r): ∀ {l l':LB} {n V D:Int},(∀b∈l,∀x∈b.kids,zB bd r c x)->0<=n->n<=D->D-n=c->a_ l->gO l->aY bd V (D+1) kd l=true->cr (gD 0 r false) (gD 0 r true) n kd l= .ok l'->
  aY bd V D kd l'=true/\(l.length=0->l'.length=0)/\(l.all (bR kd (D+1))=true->l'.all (bR kd D)=true):=by
 intro l
 induction l with
 |nil=>intro l' n V D _ _ _ _ _ _ _ h;rw [cr] at h;injection h with h;subst h;exact ⟨by rw [aY],fun h=>h,fun _=>rfl⟩
 |cons b l ih=>
  intro l' n V D h hn hD hc ho hrw ha hl
  rw [cr] at hl
  obtain ⟨o,e1,hl⟩:=ar hl
  obtain ⟨m,e2,hl⟩:=ar hl
  injection hl with hl;subst hl
  obtain ⟨f,ks⟩:=b
  rw [a_,gM] at ho
  rw [gO,og] at hrw
  rw [aY,iQ,ak] at ha
  obtain ⟨q1,q2,q3⟩:=ih (fun b hb=>h b (by simp [hb])) hn hD hc ho.2 hrw.2 ha.2 e2
  rw [jP] at e1
  obtain ⟨f',e3,e1⟩:=ar e1
  split at e1
  ·injection e1 with e1;subst e1
   exact ⟨q1,(fun h=>by cases h),fun h=>by rw [iO,ak] at h;exact q3 h.2⟩
  ·obtain ⟨ks',e4,e1⟩:=ar e1
   injection e1 with e1;subst e1
   obtain ⟨q4,q5⟩:=ajY (kd:=kd) (h ⟨f,ks⟩ (by simp)) hn hD hc ho.1.2 hrw.1.2 ha.1 e4
   refine ⟨?_,(fun h=>by cases h),fun h=> ?_⟩
   ·show aY bd V D kd (⟨f',ks'⟩::m)=true
    rw [aY,iQ,ak];exact ⟨q4,q1⟩
   ·show (Br.mk f' ks'::m).all (bR kd D)=true
    rw [iO,ak] at h ⊢
    refine ⟨?_,q3 h.2⟩
    have h1:=h.1
    unfold bR at h1 ⊢
    simp only [ak,decide_eq_true_eq] at h1 ⊢
    have hx:=(lz ho.1.1.1).1 h1.2.1
    have hx':=IP (fa:=true) ⟨hx.1,fun _=>hx.2⟩ hr hn e3
    exact ⟨by rw [q5];exact h1.1,RFa.right ⟨hx'.1,hx'.2 rfl⟩,Nb hx.1 hr hn hD h1.2.2 (by rw [show D-n+1=c+1 by omega];exact hlr) e3⟩
theorem Sw (hr:RF r) (hlr:co (fun j=>j≠0/\(j:Int)<c+1) r) (t:Tm):zB bd r c t:=by
 induction t using gi with
 |h kd k nm r0 ks sys ih1 ih2=>
  intro n V D t' hn hD hc hok hro ha h
  have hrx:=hro
  rw [RowsT] at hro
  rw [b7] at h
  obtain ⟨r1,e1,h⟩:=ar h
  obtain ⟨ks1,e2,h⟩:=ar h
  obtain ⟨sys1,e3,h⟩:=ar h
  injection h with h;subst h
  rw [aE] at ha ⊢
  obtain ⟨o1,o2,o3,o4,o5,o6,o7⟩:=hok.node
  have hok':=hok
  rw [OkT] at hok'
  simp only [ak] at ha ⊢
  obtain ⟨q1,q2,q3,q4⟩:=ha
  obtain ⟨k1,k2⟩:=ajX ih1 hn hD hc hok'.2.1 hro.2.1 q3 e2
  obtain ⟨s1,s2,s3⟩:=ajZ hr hlr ih2 hn hD hc hok'.2.2 hro.2.2 q4 e3
  refine ⟨?_, ?_,k1,s1⟩
  ·cases bd with
   |false=>rfl
   |true=>
    have: ¬D+1>24:=by simpa using q1
    rw [decide_eq_false (by omega)];rfl
  unfold dL at q2 ⊢
  simp only [ak,decide_eq_true_eq] at q2 ⊢
  obtain ⟨⟨a1,a2,a3,a4⟩,a5⟩:=q2
  refine ⟨⟨by rw [k2];exact a1,a2,a3,fun h=>s2 (a4 h)⟩, ?_⟩
  have hlow: ∀ {fa:Bool},a7 r0 (D+1)=true->gD 0 r fa n r0= .ok r1->a7 r1 D=true:=fun hl he=>Nb hro.1.1 hr hn hD hl (by rw [show D-n+1=c+1 by omega];exact hlr) he
  by_cases c4:kd=14
  ·subst c4
   rw [if_neg (by decide),if_neg (by decide),if_neg (by decide),if_pos rfl,ak] at a5 ⊢
   rw [if_pos rfl] at e1
   have hx:=(lz o4).1 a5.1
   have hx':=IP (fa:=true) ⟨hx.1,fun _=>hx.2⟩ hr hn e1
   exact ⟨RFa.right ⟨hx'.1,hx'.2 rfl⟩,hlow a5.2 e1⟩
  ·rw [if_neg c4] at e1
   rw [if_neg c4] at a5 ⊢
   by_cases c1:kd=1
   ·rw [if_pos c1] at a5 ⊢
    simp only [ak,decide_eq_true_eq] at a5 ⊢
    exact ⟨GJ a5.1 e1,a5.2⟩
   ·rw [if_neg c1] at a5 ⊢
    by_cases c2:kd=2
    ·rw [if_pos c2] at a5 ⊢
     simp only [ak,decide_eq_true_eq] at a5 ⊢
     exact ⟨GJ a5.1 e1,a5.2⟩
    ·rw [if_neg c2] at a5 ⊢
     by_cases c3:kd=13\/kd=21\/kd=26
     ·rw [if_pos c3,ak] at a5 ⊢
      have hx':=IP (fa:=false) ⟨hro.1.1,fun h=>by cases h⟩ hr hn e1
      exact ⟨hx'.1.right,hlow a5.2 e1⟩
     ·rw [if_neg c3] at a5 ⊢
      simp only [ak,decide_eq_true_eq] at a5 ⊢
      exact ⟨s3 a5.1,GJ a5.2 e1⟩
end
section
variable {vb db kd:Int}
theorem Yi: ∀ {l l':LT} {i:Nat} {v d:Int},(∀x∈l,∀ {v d:Int} {t':Tm},dm vb db v d x= .ok t'->aZ t'=aZ x)->iJ vb db v d kd i l= .ok l'->dA kd i l'=dA kd i l:=by
 intro l
 induction l<;>grind [iJ,dA,->ar]
theorem Yj: ∀ {l l':LT} {v d:Int},(∀x∈l,∀ {v d:Int} {t':Tm},dm vb db v d x= .ok t'->aZ t'=aZ x)->iL vb db v d kd l= .ok l'->ei l'=ei l:=by
 intro l
 induction l<;>grind [iL,ei,->ar]
theorem Ym: ∀ {l l':LB} {v d:Int},(∀b∈l,∀x∈b.kids,∀ {v d:Int} {t':Tm},dm vb db v d x= .ok t'->aZ t'=aZ x)->fI vb db v d kd l= .ok l'->dO l'=dO l:=by
 intro l
 induction l with
 |nil=>grind [fI]
 |cons b l ih=>
  intro l' v d h hl
  rw [fI] at hl
  obtain ⟨b',e1,hl⟩:=ar hl
  obtain ⟨m,e2,hl⟩:=ar hl
  injection hl with hl;subst hl
  obtain ⟨f,ks⟩:=b
  rw [sO] at e1
  obtain ⟨f',e3,e1⟩:=ar e1
  obtain ⟨ks',e4,e1⟩:=ar e1
  injection e1 with e1;subst e1
  rw [dO,dO,lP,lP,ih (fun b hb=>h b (by simp [hb])) e2,Yj (h ⟨f,ks⟩ (by simp)) e4]
theorem AL (t:Tm): ∀ {v d:Int} {t':Tm},dm vb db v d t= .ok t'->aZ t'=aZ t:=by
 induction t using gi with
 |h kd n nm r ks sys ih1 ih2=>
  intro v d t' h
  rw [dm] at h
  split at h
  ·cases h
  obtain ⟨r1,e1,h⟩:=ar h
  obtain ⟨ks1,e2,h⟩:=ar h
  obtain ⟨sys1,e3,h⟩:=ar h
  injection h with h;subst h
  rw [aZ,aZ,Yi ih1 e2,Ym ih2 e3]
end
theorem tu {a b:Int} {t t':Tm} (h:ep a b t= .ok t'):aZ t'=aZ t:=by
 obtain ⟨m,h1,h2⟩:=ar h
 rw [AL m h2,AL t h1]
variable {S:Type} {k:Nat}
theorem aj_ (t:Tm):dQ 0 [⟨0,0⟩] t=b7 (gD 0 [⟨0,0⟩] false) (gD 0 [⟨0,0⟩] true) 0 t:=by
 rfl
def TP (phi:LC) (en:Cl) (f:LC):Prop:= ∃f1,eM (cm phi 0 1)= .ok f1/\eM (jF f1 [en])= .ok f
theorem ahG:RC ⟨0,1⟩:=⟨⟨by decide,by decide⟩,by decide,by decide⟩
theorem ahH:RC ⟨1,0⟩:=⟨⟨by decide,by decide⟩,by decide,by decide⟩
theorem Fj {line a t:Tm} {phi r:LC} {en:Cl} (h:fz line phi a en r= .ok t):eo [line,a]=0/\bV phi=true/\ck t=0/\mr line phi a en r= .ok t/\
  ∃f l a',TP phi en f/\jV r line= .ok l/\ep 0 1 a= .ok a'/\t= .mk 14 0 au f [l,a'] []:=by
 unfold fz at h
 split at h
 case isFalse=>cases h
 rename_i h1
 split at h
 case isFalse=>cases h
 rename_i h2
 unfold jD at h
 obtain ⟨t',h3,h⟩:=ar h
 split at h
 case isFalse=>cases h
 rename_i h4
 injection h with h;subst h
 refine ⟨h1,h2,h4,h3, ?_⟩
 unfold mr at h3
 obtain ⟨f1,e1,h3⟩:=ar h3
 obtain ⟨f,e2,h3⟩:=ar h3
 obtain ⟨l,e3,h3⟩:=ar h3
 obtain ⟨a',e4,h3⟩:=ar h3
 injection h3 with h3
 exact ⟨f,l,a',⟨f1,e1,e2⟩,e3,e4,h3.symm⟩
end Go.Proofs.YtgajalidbabccaaGreatDoor
namespace Go.Proofs.YtgajalidbabccaaGreatDoor
open Go PI
set_option maxRecDepth 20000
theorem Su {V D:Int} {t:Tm} (h:d5 V D t):D<=24:=by
 cases t
 unfold d5 at h
 rw [aE] at h
 simp only [Bool.true_and,ak,j9,decide_eq_false_iff_not] at h
 omega
theorem ajr {V D:Int} {t t':Tm} (hf:Fm t) (hD:0<=D) (hs:d5 V (D+1) t) (h:dQ 0 [⟨0,0⟩] t= .ok t'):d5 V D t':=by
 rw [aj_] at h
 refine Sw (c:=D) (jN vg) ?_ t (eD 0) hD (by omega) hf.ok hf.rows hs h
 exact lits_one.2 fun j hj=>by rcases hj with hj|hj<;>simp [hp,hn] at hj
theorem wG (j:Nat):((1:Nat).testBit j=true↔j=0)/\((2:Nat).testBit j=true↔j=1)/\((4:Nat).testBit j=true↔j=2):=by
 refine ⟨?_, ?_, ?_⟩
 ·rw [show 1=2^0 from rfl,Nat.testBit_two_pow,decide_eq_true_eq];exact eq_comm
 ·rw [show 2=2^1 from rfl,Nat.testBit_two_pow,decide_eq_true_eq];exact eq_comm
 ·rw [show 4=2^2 from rfl,Nat.testBit_two_pow,decide_eq_true_eq];exact eq_comm
theorem zD {V D kd:Int} {i:Nat} {t:Tm}:bO true V D kd i [t]=true↔aE true (cq V (b8 kd i)) (D+bL kd i) t=true:=by
 rw [bO,bO,Bool.and_true]
theorem zE {V D kd:Int} {i:Nat} {t u:Tm}:bO true V D kd i [t,u]=true↔aE true (cq V (b8 kd i)) (D+bL kd i) t=true/\aE true (cq V (b8 kd (i+1:Nat))) (D+bL kd (i+1:Nat)) u=true:=by
 rw [bO,ak,zD]
theorem gH (V:Int):cq V 0=V:=by unfold cq;split<;>omega
theorem S8 {V:Int} (h:0<=V):cq V 1=V+1:=by unfold cq;rw [if_neg (by omega)]
theorem I3 {V D:Int} {r:LC} {l a:Tm} (hr:bV r=true) (hlow:a7 r D=true) (hD:D<=24) (hl:d5 V (D+1) l) (ha:d5 V D a):d5 V D (.mk 14 0 au r [l,a] []):=by
 unfold d5
 rw [aE,aY]
 simp only [Bool.true_and,ak,j9,decide_eq_false_iff_not,Bool.and_true]
 refine ⟨by omega, ?_, ?_⟩
 ·show (true&&(bV r&&a7 r D))=true
  rw [hr,hlow];rfl
 ·rw [zE]
  show aE true (cq V 0) (D+1) l=true/\aE true (cq V 0) (D+0) a=true
  rw [gH,dH];exact ⟨hl,ha⟩
theorem ajk {V D:Int} {l a:Tm} {sys:LB} (hD:D<=24) (hl:d5 V D l) (ha:d5 V D a) (hb:sys.all (bR 15 D)=true) (hs:aY true V D 15 sys=true):d5 V D (.mk 15 0 au [] [l,a] sys):=by
 unfold d5
 rw [aE,hs]
 simp only [Bool.true_and,ak,j9,decide_eq_false_iff_not,Bool.and_true]
 refine ⟨by omega, ?_, ?_⟩
 ·show (true&&(sys.all (bR 15 D)&&true))=true
  rw [hb];rfl
 ·rw [zE]
  show aE true (cq V 0) (D+0) l=true/\aE true (cq V 0) (D+0) a=true
  rw [gH,dH];exact ⟨hl,ha⟩
theorem xY {D:Int} (hD:1<=D):a7 [⟨1,0⟩] D=true:=(jk (jN ahH)).2 (lits_one.2 fun j hj=>by
 rcases hj with hj|hj
 ·have:=(wG j).1.1 hj;omega
 ·exact absurd hj (Kv _ _))
theorem LY:bV [⟨1,0⟩]=true:=by decide
theorem adE {V D:Int} {b:Br Tm} {r:LB} (hb1:b.kids=[bN b]) (h2:aY true V D 15 (b::r)=true):d5 V (D+1) (bN b)/\aY true V D 15 r=true:=by
 rw [aY,ak] at h2
 refine ⟨?_,h2.2⟩
 have:=h2.1
 obtain ⟨f,ks⟩:=b
 have hb1:ks=[bN ⟨f,ks⟩]:=hb1
 rw [iQ,hb1,cQ,ak] at this
 exact this.1
theorem afp {D:Int} (hD:1<=D):a7 [⟨0,1⟩] D=true:=(jk (jN ahG)).2 (lits_one.2 fun j hj=>by
 rcases hj with hj|hj
 ·simp [hp] at hj
 ·have:=(wG j).1.1 hj;omega)
theorem afj {Φ:Nat->Prop} {f g:LC} (h:co Φ f) (h':co Φ g):co Φ (jF f g).1:=by
 unfold jF
 split
 ·exact CW h h'
 ·exact jI _
variable {S:Type} {k:Nat}
theorem Yh {t a f y x:Tm} (h:ie t a f y= .ok x):aZ x=max (aZ t) (max (1+aZ a) (max (aZ y) (aZ f))):=by
 unfold ie at h
 obtain ⟨a',e1,h⟩:=ar h
 obtain ⟨y',e2,h⟩:=ar h
 obtain ⟨f',e3,h⟩:=ar h
 injection h with h;subst h
 have b1: ∀kd i,aZ (aF kd i)=max (dA kd 0 i) 0:=fun kd i=>by unfold aF;rw [aZ,dO]
 have hv:aZ (vN 0)=0:=by unfold vN;rw [aZ,dA,dO];rfl
 rw [b1,dA,dA,dA,b1,dA,dA,dA,dA,b1,dA,dA,dA,hv,tu e1,tu e2,tu e3]
 have:=mt t;have:=mt a;have:=mt y;have:=mt f
 have e: ∀i,bL 7 i=0/\bL 6 i=0:=fun i=>by unfold bL;constructor<;>rw [if_neg (by omega)]
 have e0:bL 11 ((0:Nat):Int)=1:=rfl
 have e1:bL 11 ((0+1:Nat):Int)=0:=rfl
 have e2:bL 11 ((0+1+1:Nat):Int)=0:=rfl
 simp only [e,e0,e1,e2]
 omega
def md (t:Tm) (V D:Int):Int:=if V<0\/D<0\/D>24 then 2 else if ah t>200 then 62 else if aA t>20000 then 221 else if aE true V D t then 0 else 100
theorem Sn {t:Tm} (ht:In k t) (hk:F3 k) {V D:Int} (hV:V<9223372036854775808) (hD:D<1000000) (J:Int->OS S):tR k t V D J=J (md t V D):=by
 simp only [tR,ap hk.fu,aO,eJ]
 unfold md
 by_cases h1:V<0
 ·rw [if_pos h1,if_pos (.inl h1)]
 rw [if_neg h1]
 by_cases h2:D<0
 ·rw [if_pos h2,if_pos (.inr (.inl h2))]
 rw [if_neg h2]
 by_cases h3:D>24
 ·rw [if_pos h3,if_pos (.inr (.inr h3))]
 have hdep:=ht.dep
 rw [if_neg h3,if_neg (by omega),Si ht.1 ht.2.1]
 by_cases h4:ah t>200
 ·rw [if_pos h4,if_pos h4];rfl
 rw [if_neg h4,if_neg h4]
 by_cases h5:aA t>20000
 ·rw [if_pos h5,if_pos h5];rfl
 rw [if_neg h5,if_neg h5,show (!((0:Int)==0))=false from rfl,ae,RT t ht.1 _ ht.2.1 ⟨by omega,by omega,by omega,by omega⟩]
 cases aE true V D t<;>rfl
theorem Rm {t:Tm} {V D:Int} (h:md t V D=0):0<=V/\0<=D/\d5 V D t:=by
 unfold md at h
 split at h
 ·cases h
 split at h
 ·cases h
 split at h
 ·cases h
 split at h
 ·exact ⟨by omega,by omega,by assumption⟩
 ·cases h
theorem ahV {t:Tm} {V D:Int} (h:ck t=0) (hV:0<=V) (hD:0<=D) (hs:d5 V D t):md t V D=0:=by
 have hle:=Su hs
 obtain ⟨h1,h2,_⟩:=iX h
 unfold md
 rw [if_neg (by omega),if_neg (by omega),if_neg (by omega),if_pos hs]
theorem zd {l:LT} {x:Except Int Tm} {t:Tm} (h:ej l x= .ok t):eo l=0/\ck t=0/\x= .ok t:=by
 unfold ej at h
 split at h
 case isFalse=>cases h
 rename_i h1
 unfold jD at h
 obtain ⟨t',h3,h⟩:=ar h
 split at h
 case isFalse=>cases h
 rename_i h4
 injection h with h;subst h
 exact ⟨h1,h4,h3⟩
theorem ajA {l:LT} {x:Except Int Tm} {e:Int} (hx: ∀e,x= .error e->e≠0) (h:ej l x= .error e):e≠0:=by
 unfold ej at h
 split at h
 ·unfold jD at h
  rcases cS h with h|⟨t,_,h⟩
  ·exact hx e h
  ·split at h
   ·cases h
   ·rename_i hne;injection h with h;exact h▸hne
 ·rename_i hne;injection h with h;exact h▸hne
theorem vS {line a:Tm} {phi r:LC} {en:Cl} {e:Int} (h:fz line phi a en r= .error e):e≠0:=by
 unfold fz at h
 split at h
 ·split at h
  ·unfold jD at h
   rcases cS h with h|⟨t,_,h⟩
   ·have:=X1 h;omega
   ·split at h
    ·cases h
    ·rename_i hne;injection h with h;exact h▸hne
  ·injection h with h;omega
 ·rename_i hne;injection h with h;exact h▸hne

theorem ajw {n:Nat}: ∀ {l:LT},(∀x∈l,aA x<=n)->ax l<=l.length*n:=by
 intro l
 induction l with
 |nil=>intro _;rw [ax];simp
 |cons x l ih=>
  intro h
  rw [ax,dv,Nat.succ_mul]
  have:=ih fun y hy=>h y (by simp [hy])
  have:=h x (by simp)
  omega
theorem Zd {n:Nat}: ∀ {l:LT},(∀x∈l,ah x<=n)->az l<=n:=by
 intro l
 induction l with
 |nil=>intro _;rw [az];omega
 |cons x l ih=>intro h;rw [az];have:=ih fun y hy=>h y (by simp [hy]);have:=h x (by simp);omega
theorem Tk (hk:F3 k) {n:Nat} (hn:n<=50000000) {l:LB} (h:Bs' n l) (hl:l.length<=20000) (hd:aN l<=299):In k (dR l):=by
 have hz:aM l<=1000000000000:=fN h.siz (fN (Nat.mul_le_mul hl hn) (by omega))
 have hs:aA noT<=1:=by unfold noT;rw [aA,ax,aM];omega
 have hdn:ah noT<=1:=by unfold noT;rw [ah,az,aN];omega
 refine (show Sm (10+1000000000000+1) (dR l) from ?_).isIn hk (by omega)
 unfold dR
 exact n1 (kd:=15) (by omega) (r:=[]) ⟨(fun c hc=>by cases hc),by simp⟩ (fun x hx=>by
  simp at hx
  subst hx
  refine ⟨?_, ?_⟩
  ·rw [OkT,aU,a_];exact ⟨⟨by unfold aR;omega,by unfold aR;omega,by decide,(fun c hc=>by cases hc),by simp,by simp,by simp⟩,trivial,trivial⟩
  ·rw [ah,az,aN];omega) (by simp) (by rw [ax,ax,ax,aA,ax,aM];simp) h.ok (by omega) hd hz
theorem D6 {l:LT} {x:Except Int Tm} {e:Int} (hx: ∀e,x= .error e->0<e/\e<=1000) (h:ej l x= .error e):e≠0:=ajA (fun e h=>by have:=hx e h;omega) h
theorem SD {a b c:Tm} (ha:OkT a) (hb:OkT b) (hc:OkT c) (h:eo [a,b,c]=0):Fm a/\Fm b/\Fm c:=by
 have:=pu (l:=[a,b,c]) (fun x hx=>by
  simp at hx
  rcases hx with rfl|rfl|rfl
  ·exact ha
  ·exact hb
  ·exact hc) h
 exact ⟨this a (by simp),this b (by simp),this c (by simp)⟩

theorem D5 {l:LT} {x:Except Int Tm} {e:Int} (hx: ∀e,x= .error e->0<e/\e<=1000) (h:ej l x= .error e):0<e/\e<=1000:=by
 unfold ej at h
 have hs:=ajH l
 split at h
 ·unfold jD at h
  rcases cS h with h|⟨t,_,h⟩
  ·exact hx e h
  ·have:=GL t
   split at h
   ·cases h
   ·rename_i hne;injection h with h;subst h;omega
 ·rename_i hne;injection h with h;subst h;omega
def k1 (b:Br Tm):Tm:=b.kids.getD 1 noT
theorem Fm.gl {t:Tm} (h:Fm t) (hk:t.kind=16):(∀b∈t.sys,b.kids=[bN b,k1 b]/\Fm (bN b)/\Fm (k1 b)/\RX true b.face)/\t.sys.length<=20000/\ ∃a,t.kids=[a]/\Fm a:=by
 have ho:=h.own
 have hall: ∀b∈t.sys,b.kids.length=2:=fun b hb=>by
  obtain ⟨kd,n,nm,r,ks,sys⟩:=t
  have hk:kd=16:=hk
  subst hk
  have ho:(_&&(sys.all (bR 16 24)&&_))=true:=ho
  simp only [ak] at ho
  have:=d7.1 ho.2.1 b hb
  grind [bR,fQ]
 refine ⟨fun b hb=> ?_, ?_, ?_⟩
 ·have hl:=hall b hb
  obtain ⟨f,ks⟩:=b
  match ks,hl with
  |[a,c],_=>exact ⟨rfl,h.brk hb (by simp [bN]),h.brk hb (by simp [k1]),h.face hb⟩
 ·have h1:=h.siz
  have h2:=vu t
  have: ∀ {l:LB},(∀b∈l,b.kids.length=2)->l.length<=aM l:=by
   intro l
   induction l with
   |nil=>simp
   |cons b l ih=>
    intro hl
    have:=ih fun b hb=>hl b (by simp [hb])
    have hb:=hl b (by simp)
    obtain ⟨f,ks⟩:=b
    match ks,hb with
    |a::ks,_=>grind [aM,jp,ax,po]
  grind
 ·have hn:=h.nk
  rw [hk] at hn
  have e:j4 16=1:=rfl
  obtain ⟨a,ha⟩:=sZ (t:=t) (by omega)
  exact ⟨a,ha,h.kid (by grind)⟩
def gc (g:Tm):LB:=g.sys.map fun x=>⟨x.face,[k1 x]⟩
abbrev lM (a:Tm) (es:LB):Tm:= .mk 18 0 au [] [a] es
abbrev ik:Tm:= .mk 3 0 au [] [] []
def j8 (n:Nat) (l:LB):Prop:= ∀x∈l,∃t,x.kids=[t]/\Sm n t/\ah t<=299/\av x.face/\x.face.length<1073741824
theorem tw (n:Nat):j8 n []:=fun x hx=>by cases hx
theorem AS {n:Nat} {l:LB} {f:LC} {t:Tm} (hf:av f/\f.length<1073741824) (ht:Sm n t) (hd:ah t<=299) (h:j8 n l):j8 n (⟨f,[t]⟩::l):=fun x hx=>by
 rcases eb.1 hx with rfl|hx
 ·grind
 ·exact h x hx
theorem AR {n:Nat} {a b:LB} (ha:j8 n a) (hb:j8 n b):j8 n (a++b):=fun x hx=>(er.1 hx).elim (ha x) (hb x)
def FN (x:Tm):Prop:=Fm x\/x=noT
theorem FN.sm {x:Tm} (h:FN x):Sm 20000 x/\ah x<=200:=by
 rcases h with h|rfl
 ·exact ⟨h.sm,h.dep⟩
 grind [yw,noT,ah,az,aN]
theorem pZ {c:Int} {x:Except Int Tm} (h: ∀t,x= .ok t->Fm t):FN (mM c x).1:=by
 unfold mM
 split
 ·cases x with
  |error e=>exact .inr rfl
  |ok t=>exact .inl (h t rfl)
 ·exact .inr rfl
theorem vv {kd:Int} (hkd:0<=kd/\kd<=28) {n:Nat} {ks:LT} (h: ∀x∈ks,Sm n x/\ah x<=290) (hl:ks.length<=4):Sm (4*n+1) (aF kd ks)/\ah (aF kd ks)<=291:=by
 have hd:az ks<=290:=Zd fun x hx=>(h x hx).2
 have hz:ax ks<=4*n:=fN (ajw fun x hx=>(h x hx).1.siz) (Nat.mul_le_mul_right _ hl)
 unfold aF
 refine ⟨(n1 (kd:=kd) hkd (r:=[]) ⟨(fun c hc=>by cases hc),by simp⟩ (ks:=ks) (sys:=[]) (n:=4*n) (m:=0) (fun x hx=>⟨(h x hx).1.ok,by grind⟩) (by omega) hz (by rw [a_];trivial) (by simp) (by rw [aN];omega) (by rw [aM];omega)).mono (by omega), ?_⟩
 rw [ah,aN];omega
theorem FE {n:Nat} {l:LB} (h:j8 n l):Bs' n l/\aN l<=299:=by
 induction l with
 |nil=>grind [FD,aN]
 |cons x l ih=>
  obtain ⟨i1,i2⟩:=ih fun x hx=>h x (by simp [hx])
  obtain ⟨t,e,h1,h2,h3,h4⟩:=h x (by simp)
  obtain ⟨f,ks⟩:=x
  have e:ks=[t]:=e
  subst e
  refine ⟨?_, ?_⟩
  ·refine ⟨?_, ?_, ?_⟩
   ·rw [a_,gM,aU,aU];exact ⟨⟨⟨h3,h4,by simp⟩,h1.ok,trivial⟩,i1.ok⟩
   ·rw [aM,jp,ax,ax,dv,Nat.succ_mul];have:=i1.siz;have:=h1.siz;omega
   grind [aN,ji,az]
  grind [aN,ji,az]
theorem abx {g:Tm} (fg:Fm g) (hg:g.kind=16):a_ (gc g)/\aN (gc g)<=aN g.sys/\aM (gc g)<=aM g.sys/\(gc g).length=g.sys.length/\aY false (-1) 24 18 (gc g)=true/\(gc g).all (bR 18 24)=true:=by
 obtain ⟨hx,hl,_⟩:=fg.gl hg
 unfold gc
 generalize g.sys=l at hx
 clear hl
 induction l with
 |nil=>grind [a_,aY]
 |cons x l ih=>
  obtain ⟨i1,i2,i3,i4,i5,i6⟩:=ih fun b hb=>hx b (by simp [hb])
  obtain ⟨q1,q2,q3,q4⟩:=hx x (by simp)
  obtain ⟨f,ks⟩:=x
  have q1:ks=[bN ⟨f,ks⟩,k1 ⟨f,ks⟩]:=q1
  have r1:=fj q4
  rw [jc]
  refine ⟨?_, ?_, ?_,by simp, ?_, ?_⟩
  ·rw [a_,gM,aU,aU];exact ⟨⟨⟨r1.1,r1.2,by simp⟩,q3.ok,trivial⟩,i1⟩
  ·grind [aN,ji,az]
  ·grind [aM,jp,ax]
  ·rw [aY,iQ,cQ,cQ,Bool.and_true,ak]
   exact ⟨(iX q3.2).2.2,i5⟩
  ·rw [iO,ak]
   refine ⟨?_,i6⟩
   unfold bR
   rw [ak,ak]
   refine ⟨rfl,RFa.right ⟨q4.1,q4.2 rfl⟩, ?_⟩
   rw [jk q4.1]
   exact fun c hc j hj=>by
    have:j<24:=hj.elim (Ix (q4.1.rc hc)) (Iw (q4.1.rc hc))
    omega
section
variable {g:Tm}
end
theorem M0 (hk:F3 k) (J:LB->OS S) {l:LB} (hx: ∀b∈l,b.kids=[bN b,k1 b]) (hl:l.length<=20000):
  ∀ (r p acc:LB) (m:Nat),l=p++r->r.length<m->acc.length+r.length<=20000->
   uB k J l m (p.length:Int) acc=J (acc++r.map fun x=>⟨x.face,[k1 x]⟩):=by
 intro r
 induction r with
 |nil=>
  intro p acc m h hm ha
  obtain ⟨m,rfl,hm'⟩:=aw hm
  grind [uB,Aj,ae]
 |cons x r ih=>
  intro p acc m h hm ha
  obtain ⟨m,rfl,hm'⟩:=aw hm
  obtain ⟨e1,e2,e3,e4⟩:=bM h (by omega)
  rw [dv] at ha
  have g1:ao x.kids 1=some (k1 x):=ld (n:=1) rfl (by grind)
  simp only [uB,Aj,e1,al,e2,aV,ap hk.fu,e3,Gb,g1,aO,eV]
  grind [cX]
section
variable {x1 x2:Int} {x3:BA} {x4:LC} {x5:LT} {x6 sys:LB}
end
theorem ajz {x y:Tm} {l:LB} {n m:Nat} (hx:Sm n x) (hy:Sm n y) (dx:ah x<=290) (dy:ah y<=290) (hn:n<=1000000) (hb:j8 m l) (hm:m<=1000000) (hl:l.length<=40000):Sm 50000000000 (.mk 15 0 au [] [x,y] l):=by
 obtain ⟨b1,b2⟩:=FE hb
 have hz:aM l<=40000*1000000:=fN b1.siz (Nat.mul_le_mul hl hm)
 exact (n1 (kd:=15) (by omega) (r:=[]) ⟨(fun c hc=>by cases hc),by simp⟩ (ks:=[x,y]) (sys:=l) (n:=2000000) (m:=40000*1000000) (fun z hz=>by
  simp at hz
  rcases hz with rfl|rfl
  ·exact ⟨hx.ok,by omega⟩
  ·exact ⟨hy.ok,by omega⟩) (by simp) (by rw [ax,ax,ax];have:=hx.siz;have:=hy.siz;omega) b1.ok (by omega) b2 hz).mono (by omega)
section
variable {x1 x2:Int} {x3:BA} {x4:LC} {x5:LT} {x6 sys:LB}
end
def parts (kd:Int) (sys:LB):LB:=sys.map fun x=>⟨x.face,[aF kd [bN x]]⟩
theorem I7 {kd:Int} (hkd:0<=kd/\kd<=28) {a:Tm} (fa:FN a):Sm 80001 (aF kd [a])/\ah (aF kd [a])<=201:=by
 have h:=vv (kd:=kd) hkd (n:=20000) (ks:=[a]) (fun x hx=>by simp at hx;subst hx;exact ⟨fa.sm.1,by have:=fa.sm.2;omega⟩) (by simp)
 refine ⟨h.1, ?_⟩
 unfold aF;rw [ah,az,az,aN];have:=fa.sm.2;omega
section
variable {x1 x2:Int} {x3:BA} {x4:LC} {x5:LT} {x6 sys:LB}
theorem L9 (hk:F3 k) {l a:Tm} {s:LB} (hl:In k l) (ha:In k a) (hs:In k (dR s)) (c:Int):FN (mM c (ej [l,a,dR s] (iD l a s))).1:=pZ fun t h=>by
 obtain ⟨so,ff,hx⟩:=zd h
 obtain ⟨f1,f2,f3⟩:=SD hl.1 ha.1 hs.1 so
 exact ⟨(FK hk f1 f2 (Er f3) hx).1.1,ff⟩
end
abbrev pc (r:LC) (u lo hi:Tm):Tm:= .mk 13 0 au r [u,lo,hi] []
theorem uX {a b:Int} (ha:0<=a/\a<4294967296) (hb:0<=b/\b<4294967296):av [⟨a,b⟩]/\[(⟨a,b⟩:Cl)].length<1073741824:=⟨fun c hc=>by rw [ju] at hc;subst hc;exact ⟨ha,hb⟩,by simp⟩
theorem ajy {r:LC} (hr:av r/\r.length<1073741824) {u lo hi:Tm} (f1:FN u) (f2:FN lo) (f3:FN hi):Sm 60001 (pc r u lo hi)/\ah (pc r u lo hi)<=201:=by
 have a1:=f1.sm;have a2:=f2.sm;have a3:=f3.sm
 refine ⟨(n1 (kd:=13) (by omega) hr (ks:=[u,lo,hi]) (sys:=[]) (n:=60000) (m:=0) (fun x hx=>by
  simp at hx
  rcases hx with rfl|rfl|rfl
  ·exact ⟨a1.1.ok,by omega⟩
  ·exact ⟨a2.1.ok,by omega⟩
  ·exact ⟨a3.1.ok,by omega⟩) (by simp) (by rw [ax,ax,ax,ax];have:=a1.1.siz;have:=a2.1.siz;have:=a3.1.siz;omega) (by rw [a_];trivial) (by simp) (by rw [aN];omega) (by rw [aM];omega)).mono (by omega), ?_⟩
 grind [ah,az,aN]
section
variable {x1 x2:Int} {x3:BA} {x4:LC} {x5:LT} {x6 sys:LB}
end
section
variable {x1 x2:Int} {x3:BA} {x4:LC} {x5:LT} {x6 sys:LB}
end
def nn (v d:Int) (m:Tm):Except Int Tm:=bE (qP 1 v m) fun y=>iG 0 d y
theorem Ys {v d:Int} {m:Tm} {e:Int} (h:nn v d m= .error e):0<e/\e<=1000:=by
 unfold nn at h
 rcases cS h with h|⟨_,_,h⟩
 ·exact S7 e h
 ·exact xv e h
theorem Kc {f b:Int} (hb:0<=b/\b<=1000000) {m y:Tm} (hm:OkT m) (h:qP f b m= .ok y):Fm y:=by
 unfold qP gC at h
 split at h
 case isFalse=>cases h
 rename_i h0
 exact ku (by omega) ⟨hm,h0⟩ h
theorem B9 {f b:Int} (hb:0<=b/\b<=1000) {m y:Tm} (hm:OkT m) (h:iG f b m= .ok y):Fm y:=by
 unfold iG gC at h
 split at h
 case isFalse=>cases h
 rename_i h0
 exact ku (by omega) ⟨hm,h0⟩ h
theorem Yt {v d:Int} (hv:0<=v/\v<=1000) (hd:0<=d/\d<=1000) {m y:Tm} (hm:OkT m) (h:nn v d m= .ok y):Fm y:=by
 unfold nn at h
 obtain ⟨x,h1,h2⟩:=ar h
 exact B9 hd (Kc (by omega) hm h1).ok h2
theorem aiS (hk:F3 k) {m:Tm} {v d c:Int} (hv:0<=v/\v<=1000) (hd:0<=d/\d<=1000) (hm:c=0->In k m) (J:Tm×Int->OS S):BU k m v d c J=J (mM c (nn v d m)):=by
 simp only [BU,ap hk.fu,ef,aO,lD]
 by_cases hc:c=0
 case neg=>rw [fZ hc,dr,al,sS hc];rfl
 have im:=hm hc
 subst hc
 rw [show (!((0:Int)==0))=false from rfl,ae,sQ,ain hk im (by omega) (by omega),if_pos rfl]
 unfold nn
 cases hh:qP 1 v m with
 |error e=>
  have he:=S7 e hh
  rw [show (tE (.error e)).2=e from rfl,if_neg (show e≠0 by omega)]
  dsimp only
  rw [fZ (show e≠0 by omega),dr,al];rfl
 |ok y=>
  have fy:=Kc (by omega) im.1 hh
  rw [show (tE (.ok y)).2=0 from rfl,show (tE (.ok y)).1=y from rfl,if_pos rfl]
  dsimp only
  rw [show (!((0:Int)==0))=false from rfl,ae,IQ hk (fy.isIn hk) (by omega) (by omega),bP]
  have:=MX (iG 0 d y) (yu xv) 0
  grind [sQ]
theorem X0 (hk:F3 k) {line a y:Tm} {phi r:LC} {en:Cl} (hl:OkT line) (ha:OkT a) (hp:RF phi) (he:cO en) (hr:RF r) (h:fz line phi a en r= .ok y):Fm y:=by
 unfold fz at h
 split at h
 case isFalse=>cases h
 rename_i so
 split at h
 case isFalse=>cases h
 unfold jD at h
 obtain ⟨z,h1,h⟩:=ar h
 split at h
 case isFalse=>cases h
 rename_i f0
 injection h with h;subst h
 have:=pu (l:=[line,a]) (fun x hx=>by
  grind) so
 exact ⟨(zG hk (this line (by simp)) (this a (by simp)) hp he h1).1.1,f0⟩
theorem KE {line a:Tm} {phi r:LC} {en:Cl} {e:Int} (h:fz line phi a en r= .error e):e≠0:=vS h
section
variable {phi:LC} {x1 x2:Int} {x3:BA} {x4:LC} {x5:LT} {x6:LB}
theorem aja (hk:F3 k) {l a:Tm} {c:Int} (hl:In k l) (ha:In k a) (hp:av phi/\phi.length<1073741824) (J:Tm×Int->OS S):BT k l phi a c J=J (mM c (fz l phi a ⟨1,0⟩ [⟨0,1⟩,⟨2,0⟩])):=by
 simp only [BT,ap hk.fu,ef,aO,lD]
 exact qm c (fun h g=>aib hk hl ha hp.1 hp.2 g) (fun e h=>KE h) J
theorem So (hk:F3 k) {l a:Tm} {c:Int} (hl:In k l) (ha:In k a) (hp:av phi/\phi.length<1073741824) (J:Tm×Int->OS S):w_ k l phi a c J=J (mM c (fz l phi a ⟨0,1⟩ [⟨3,0⟩])):=by
 simp only [w_,ap hk.fu,ef,aO,lD]
 exact qm c (fun h g=>ail hk hl ha hp.1 hp.2 g) (fun e h=>KE h) J
end
set_option maxRecDepth 100000
theorem ahT:RF [⟨2,0⟩]:=jN ⟨⟨by decide,by decide⟩,by decide,by decide⟩
def tj (t:Tm):Except Int Tm:=bE (dm 0 1 0 2 t) fun y=>dQ 0 [⟨2,0⟩] y
def lL (t:Tm):Except Int Tm:=gC t (tj t)
theorem aj0 {t:Tm} {e:Int} (h:tj t= .error e):0<e/\e<=1000:=by
 unfold tj at h
 rcases cS h with h|⟨_,_,h⟩
 ·exact oZ t h
 ·exact vz h
theorem ajc (hk:F3 k) {t:Tm} (ht:In k t) (J:Tm×Int->OS S):B4 k t J=J (tE (lL t)):=by
 simp only [B4,ap hk.fu,aO,IQ hk ht (f:=2) (b:=1) (by decide) (by omega)]
 unfold lL iG gC
 by_cases h0:ck t=0
 case neg=>rw [if_neg h0,if_neg h0,show (tE (.error (ck t):Except Int Tm)).2=ck t from rfl,fZ h0,dr,al];rfl
 rw [if_pos h0,if_pos h0]
 have ft:Fm t:=⟨ht.1,h0⟩
 unfold tj
 cases hl:dm 0 1 0 2 t with
 |error e=>
  have he:=oZ t hl
  rw [show (tE (.error e)).2=e from rfl,fZ (show e≠0 by omega),dr,al];rfl
 |ok y=>
  have fy:=ku (by omega) ft hl
  rw [show (tE (.ok y)).2=0 from rfl,show (tE (.ok y)).1=y from rfl,show (!((0:Int)==0))=false from rfl,ae,IS hk (fy.isIn hk) (i:=0) (by decide) ahT,bP,show aP 0 [⟨2,0⟩] y=dQ 0 [⟨2,0⟩] y from if_pos fy.2]
theorem ak1 {S:Type} (q:Nat) (J:Bool->OS S):BL (q+400) J=J true:=by kernel_rfl
theorem ajh (hk:F3 k) (J:Bool->OS S):BL k J=J true:=by
 have hk:4294968296<=k:=hk
 obtain ⟨q,rfl⟩: ∃q,k=q+400:=⟨k-400,by omega⟩
 exact ak1 q J
set_option maxRecDepth 20000
def Q2 (x:Tm):Prop:=Sm 20000 x/\ah x<=200
theorem Q2.isIn {x:Tm} (h:Q2 x) (hk:F3 k):In k x:=h.1.isIn hk (by omega)
theorem Fm.q2 {x:Tm} (h:Fm x):Q2 x:=⟨h.sm,h.dep⟩
theorem OY:Q2 noT:=(FN.sm (.inr rfl))
theorem kz {c:Int} {x:Except Int Tm} (h: ∀t,x= .ok t->Q2 t):Q2 (mM c x).1:=by
 unfold mM
 split
 ·cases x with
  |error e=>exact OY
  |ok t=>exact h t rfl
 ·exact OY
theorem dX {c:Int} {x:Except Int Tm} (hx: ∀e,x= .error e->0<e/\e<=1000) (h:(mM c x).2=0):c=0/\ ∃y,x= .ok y/\(mM c x).1=y:=by
 by_cases hc:c=0
 ·subst hc
  rw [sQ] at h ⊢
  cases x with
  |error e=>have:=hx e rfl;have:e=0:=h;omega
  |ok y=>exact ⟨rfl,y,rfl,rfl⟩
 ·rw [sS hc] at h;exact absurd h hc
theorem l9 {t y:Tm} {x:Except Int Tm} (h:gC t x= .ok y):ck t=0/\x= .ok y:=by
 unfold gC at h
 split at h
 ·rename_i h0;exact ⟨h0,h⟩
 ·cases h
theorem lN {a b:Int} {t y:Tm} (ht:OkT t) (h:bU a b t= .ok y):Fm t/\ep a b t= .ok y:=⟨⟨ht,(l9 h).1⟩,(l9 h).2⟩
theorem pz {i:Int} {r:LC} {t y:Tm} (ht:OkT t) (h:aP i r t= .ok y):Fm t/\dQ i r t= .ok y:=⟨⟨ht,(l9 h).1⟩,(l9 h).2⟩
theorem Gp {f b:Int} {t y:Tm} (ht:OkT t) (h:iG f b t= .ok y):Fm t/\dm 0 b 0 f t= .ok y:=⟨⟨ht,(l9 h).1⟩,(l9 h).2⟩
theorem aky {f b:Int} {t y:Tm} (ht:OkT t) (h:qP f b t= .ok y):Fm t/\dm b 0 f 0 t= .ok y:=⟨⟨ht,(l9 h).1⟩,(l9 h).2⟩
theorem HX {n:Int} {t u y:Tm} (ht:OkT t) (hu:OkT u) (h:mS n t u= .ok y):Fm t/\Fm u/\ls n t u= .ok y:=by
 obtain ⟨h1,h2⟩:=l9 h
 obtain ⟨h3,h4⟩:=l9 h2
 exact ⟨⟨ht,h1⟩,⟨hu,h3⟩,h4⟩
theorem SN {t y:Tm} (ht:OkT t) (h:lL t= .ok y):Fm t/\tj t= .ok y:=⟨⟨ht,(l9 h).1⟩,(l9 h).2⟩
theorem S0 {a b:Int} (ha:0<=a/\a<=1000) (hb:0<=b/\b<=1000) {t y:Tm} (ht:OkT t) (h:bU a b t= .ok y):Q2 y:=(pA (by omega) (lN ht h).1 (lN ht h).2).q2
theorem vB {r:LC} {t y:Tm} (ht:OkT t) (h:aP 0 r t= .ok y):Q2 y:=by
 obtain ⟨h1,h2⟩:=pz ht h
 obtain ⟨q1,q2,q3⟩:=vA h1 h2
 exact ⟨⟨q1,q3,by omega⟩,q2⟩
theorem OQ {t u y:Tm} (ht:OkT t) (hu:OkT u) (h:mS 0 t u= .ok y):Q2 y:=by
 obtain ⟨h1,h2,h3⟩:=HX ht hu h
 exact (agB (by omega) h1 h2 h3).q2
theorem aj2 {t y:Tm} (ht:OkT t) (h:lL t= .ok y):Q2 y:=by
 obtain ⟨h1,h2⟩:=SN ht h
 unfold tj at h2
 obtain ⟨z,e1,e2⟩:=ar h2
 obtain ⟨q1,q2,q3⟩:=vA (ku (by omega) h1 e1) e2
 exact ⟨⟨q1,q3,by omega⟩,q2⟩
theorem Yu {v d:Int} (hv:0<=v/\v<=1000) (hd:0<=d/\d<=1000) {m y:Tm} (hm:OkT m) (h:nn v d m= .ok y):Q2 y:=(Yt hv hd hm h).q2
theorem Fi (hk:F3 k) {line a y:Tm} {phi r:LC} {en:Cl} (hl:OkT line) (ha:OkT a) (hp:RF phi) (he:cO en) (hr:RF r) (h:fz line phi a en r= .ok y):Q2 y:=(X0 hk hl ha hp he hr h).q2
theorem DS:RF []:=ja
theorem aj1 {t:Tm}: ∀e,lL t= .error e->0<e/\e<=1000:=fun e h=>oG (fun e h=>aj0 h) h
section
variable {phi:LC} {x1 x2:Int} {x3:BA} {x4:LC} {x5:LT} {x6:LB}
def m8 (phi:LC) (k0 k1 a:Tm):Tm×Int:=
 let U:=mM 0 (bU 1 0 k0)
 let W:=mM U.2 (fz U.1 phi (vN 0) ⟨1,0⟩ [⟨0,1⟩,⟨2,0⟩])
 let B0:=mM W.2 (nn 1 0 k1)
 let B:=mM B0.2 (mS 0 B0.1 W.1)
 let F:=mM B.2 (bU 1 0 a)
 let T:=mM F.2 (aP 0 [] W.1)
 (aF 5 [dE phi B.1 (aF 6 [F.1,T.1])],T.2)
def m9 (phi:LC) (k0 k1 a:Tm):Tm×Int:=
 let R:=mM 0 (fz k0 phi (aF 9 [a]) ⟨0,1⟩ [⟨3,0⟩])
 let B:=mM R.2 (mS 0 k1 R.1)
 (aF 8 [dE phi k0 (aF 9 [a]),dE phi B.1 (aF 10 [a])],B.2)
end
theorem Kb {n:Int} (hn:0<=n/\n<=1000):Q2 (vN n):=by
 unfold vN
 refine ⟨⟨?_, ?_, ?_⟩, ?_⟩
 ·rw [OkT,aU,a_];exact ⟨⟨by unfold aR;omega,by unfold aR;omega,by decide,(fun c hc=>by cases hc),by simp,by simp,by simp⟩,trivial,trivial⟩
 ·rw [aA,ax,aM];omega
 ·rw [ah,az,aN];omega
 ·rw [ah,az,aN];omega
theorem HN:cO ⟨1,0⟩:=⟨⟨by decide,by decide⟩,⟨by decide,by decide⟩⟩
theorem yA:cO ⟨0,1⟩:=⟨⟨by decide,by decide⟩,⟨by decide,by decide⟩⟩
section
variable {phi:LC} {x1 x2:Int} {x3:BA} {x4:LC} {x5:LT} {x6:LB}
theorem Sl (hk4:F4 k) {l k0 k1:Tm} (hkd:l.kids=[k0,k1]) (f0:Fm k0) (f1:Fm k1) (fa:Fm (Tm.mk x1 x2 x3 x4 x5 x6)) (hp:RX true phi) (J:Int×Int×BA×LT×Int->OS S):
  ∃ks c,B6 k l 0 phi x1 x2 x3 x4 x5 x6 J=J (5,0,au,ks,c)/\(aF 5 ks,c)=m8 phi k0 k1 (Tm.mk x1 x2 x3 x4 x5 x6)/\In k (aF 5 ks):=by
 have hk:=hk4.f3
 obtain ⟨g0,g1⟩:=p9 hkd
 generalize ha:Tm.mk x1 x2 x3 x4 x5 x6=a at fa
 unfold m8
 dsimp only
 generalize hU:mM 0 (bU 1 0 k0)=U
 generalize hW:mM U.2 (fz U.1 phi (vN 0) ⟨1,0⟩ [⟨0,1⟩,⟨2,0⟩])=W
 generalize hB0:mM W.2 (nn 1 0 k1)=B0
 generalize hB:mM B0.2 (mS 0 B0.1 W.1)=B
 generalize hF:mM B.2 (bU 1 0 a)=F
 generalize hT:mM F.2 (aP 0 [] W.1)=T
 have qU:Q2 U.1:=by rw [<-hU];exact kz fun t h=>S0 (by omega) (by omega) f0.ok h
 have qW:Q2 W.1:=by rw [<-hW];exact kz fun t h=>Fi hk qU.1.ok (Kb (by omega)).1.ok hp.1 HN IB h
 have qB0:Q2 B0.1:=by rw [<-hB0];exact kz fun t h=>Yu (by omega) (by omega) f1.ok h
 have qB:Q2 B.1:=by rw [<-hB];exact kz fun t h=>OQ qB0.1.ok qW.1.ok h
 have qF:Q2 F.1:=by rw [<-hF];exact kz fun t h=>S0 (by omega) (by omega) fa.ok h
 have qT:Q2 T.1:=by rw [<-hT];exact kz fun t h=>vB qW.1.ok h
 have h6:=vv (kd:=6) (by omega) (n:=20000) (ks:=[F.1,T.1]) (fun x hx=>by
  simp at hx
  rcases hx with rfl|rfl
  ·exact ⟨qF.1,by have:=qF.2;omega⟩
  ·exact ⟨qT.1,by have:=qT.2;omega⟩) (by simp)
 have d6:ah (aF 6 [F.1,T.1])<=201:=by unfold aF;rw [ah,az,az,az,aN];have:=qF.2;have:=qT.2;omega
 have h14:=lH (fj hp) qB.1 h6.1 (by have:=qB.2;omega) (by omega)
 have d14:ah (dE phi B.1 (aF 6 [F.1,T.1]))<=202:=by unfold dE;rw [ah,az,az,az,aN];have:=qB.2;omega
 have h5:=vv (kd:=5) (by omega) (ks:=[dE phi B.1 (aF 6 [F.1,T.1])]) (fun x hx=>by
  simp at hx;subst hx;exact ⟨h14,by omega⟩) (by simp)
 refine ⟨_,T.2, ?_,rfl,h5.1.isIn hk (by omega)⟩
 simp only [B6,ap hk.fu,aO,g0,g1,aV,Gc,d8,oC,iF,ha]
 have e0:Tm.mk 1 0 au [] [] []=vN 0:=rfl
 have i0:=(Kb (n:=0) (by omega)).isIn hk
 rw [lE hk (fun _=>f0.isIn hk) (by omega) (by omega),hU]
 rw [e0,aja hk (qU.isIn hk) i0 (fj hp),hW,aiS hk (by omega) (by omega) (fun _=>f1.isIn hk),hB0,Sc hk4 (fun _=>⟨qB0.isIn hk,qW.isIn hk⟩),hB,lE hk (fun _=>fa.isIn hk) (by omega) (by omega),hF,za hk (fun _=>qW.isIn hk) DS,hT]
 rfl
theorem Sp (hk4:F4 k) {l k0 k1:Tm} (hkd:l.kids=[k0,k1]) (f0:Fm k0) (f1:Fm k1) (fa:Fm (Tm.mk x1 x2 x3 x4 x5 x6)) (hp:RX true phi) (J:Int×Int×BA×LT×Int->OS S):
  ∃ks c,B7 k l 0 phi x1 x2 x3 x4 x5 x6 J=J (8,0,au,ks,c)/\(aF 8 ks,c)=m9 phi k0 k1 (Tm.mk x1 x2 x3 x4 x5 x6)/\In k (aF 8 ks):=by
 have hk:=hk4.f3
 obtain ⟨g0,g1⟩:=p9 hkd
 generalize ha:Tm.mk x1 x2 x3 x4 x5 x6=a at fa
 unfold m9
 dsimp only
 have a9:=I7 (kd:=9) (by omega) (.inl fa)
 have a10:=I7 (kd:=10) (by omega) (.inl fa)
 have i9:In k (aF 9 [a]):=a9.1.isIn hk (by omega)
 generalize hR:mM 0 (fz k0 phi (aF 9 [a]) ⟨0,1⟩ [⟨3,0⟩])=R
 generalize hB:mM R.2 (mS 0 k1 R.1)=B
 have qR:Q2 R.1:=by rw [<-hR];exact kz fun t h=>Fi hk f0.ok a9.1.ok hp.1 yA yV h
 have qB:Q2 B.1:=by rw [<-hB];exact kz fun t h=>OQ f1.ok qR.1.ok h
 have h14:=lH (fj hp) f0.sm a9.1 (by have:=f0.dep;omega) (by have:=a9.2;omega)
 have h14':=lH (fj hp) qB.1 a10.1 (by have:=qB.2;omega) (by have:=a10.2;omega)
 have d14:ah (dE phi k0 (aF 9 [a]))<=202:=by unfold dE;rw [ah,az,az,az,aN];have:=f0.dep;have:=a9.2;omega
 have d14':ah (dE phi B.1 (aF 10 [a]))<=202:=by unfold dE;rw [ah,az,az,az,aN];have:=qB.2;have:=a10.2;omega
 have h8:=vv (kd:=8) (by omega) (n:=100002) (ks:=[dE phi k0 (aF 9 [a]),dE phi B.1 (aF 10 [a])]) (fun x hx=>by
  simp at hx
  rcases hx with rfl|rfl
  ·exact ⟨h14.mono (by omega),by omega⟩
  ·exact ⟨h14'.mono (by omega),by omega⟩) (by simp)
 refine ⟨_,B.2, ?_,rfl,h8.1.isIn hk (by omega)⟩
 simp only [B7,ap hk.fu,aO,g0,g1,aV,d8,oC,iF,ha]
 have e9:Tm.mk 9 0 au [] [a] []=aF 9 [a]:=rfl
 rw [e9,So hk (f0.isIn hk) i9 (fj hp),hR,Sc hk4 (fun _=>⟨f1.isIn hk,qR.isIn hk⟩),hB]
 rfl
end
def lA (c:Int) (f:LC):LC×Int:=if c=0 then cm f 0 1 else ([],c)
def jW (b:Int) (r:LC) (a u v:Tm) (c:Int):Tm×Int:=
 let P:=mM c (bU 0 b a)
 let X:=mM P.2 (bU 0 b u)
 let Y:=mM X.2 (bU 0 b v)
 (pc r P.1 X.1 Y.1,Y.2)
def py (phi:LC) (a u v:Tm) (c:Int):LB×Int:=
 if phi.length=0 then ([],c) else
  let f:=lA c phi
  let q:=jW 2 [⟨2,0⟩] a u v f.2
  ([⟨f.1,[q.1]⟩],q.2)
def m7 (phi:LC) (k0 l r a:Tm):Tm×Int:=
 let u:=mM 0 (aP 0 [] l)
 let v:=mM u.2 (aP 0 [] r)
 let L:=mM v.2 (lL k0)
 let b:=jW 1 [⟨1,0⟩] a u.1 v.1 L.2
 let s:=py phi a u.1 v.1 b.2
 let l1:=mM s.2 (iG 1 1 l)
 let r1:=mM l1.2 (iG 1 1 r)
 let sys:=s.1++[⟨[⟨0,1⟩],[l1.1]⟩]++[⟨[⟨1,0⟩],[r1.1]⟩]
 let C:=mM r1.2 (ej [L.1,b.1,dR sys] (iD L.1 b.1 sys))
 (aF 12 [C.1],C.2)
section
variable {phi:LC} {x1 x2:Int} {x3:BA} {x4:LC} {x5:LT} {x6:LB}
theorem KJ {b:Int} (hb:0<=b/\b<=1000) {r:LC} {a u v:Tm} {c:Int} (oa:OkT a) (ou:OkT u) (ov:OkT v) (hr:av r/\r.length<1073741824):Sm 60001 (jW b r a u v c).1/\ah (jW b r a u v c).1<=201:=by
 have f: ∀ {t:Tm} (ot:OkT t) (c:Int),FN (mM c (bU 0 b t)).1:=fun ot c=>pZ fun t h=>pA (by omega) (lN ot h).1 (lN ot h).2
 exact ajy hr (f oa _) (f ou _) (f ov _)
theorem Sj (hk:F3 k) {b c:Int} (hb:0<=b/\b<1000) {r:Cl} {u v:Tm} (ia:In k (Tm.mk x1 x2 x3 x4 x5 x6)) (iu:In k u) (iv:In k v) (J:Int×Int×BA×LC×LT×Int->OS S):
  ∃ks,xo k b r u v c phi x1 x2 x3 x4 x5 x6 J=J (13,0,au,[r],ks,(jW b [r] (Tm.mk x1 x2 x3 x4 x5 x6) u v c).2)/\Tm.mk 13 0 au [r] ks []=(jW b [r] (Tm.mk x1 x2 x3 x4 x5 x6) u v c).1:=by
 refine ⟨_, ?_,rfl⟩
 simp only [xo,ap hk.fu,aO,iF]
 rw [lE hk (fun _=>ia) (by omega) hb,lE hk (fun _=>iu) (by omega) hb,lE hk (fun _=>iv) (by omega) hb]
 rfl
theorem aiu (hk:F3 k) {t:Tm} {c:Int} (ht:In k t) (J:Tm×Int->OS S):B8 k t c phi x1 x2 x3 x4 x5 x6 J=J (mM c (lL t)):=by
 simp only [B8,ap hk.fu,aO,ajc hk ht]
 by_cases hc:c=0
 ·subst hc;rw [show (!((0:Int)==0))=false from rfl,ae,sQ]
 ·rw [fZ hc,dr,al,sS hc];rfl
theorem ahX {c:Int} {f:LC} (h:RF f):av (lA c f).1/\(lA c f).1.length<1073741824:=by
 unfold lA
 split
 ·exact Hi h
 ·exact ⟨fun c hc=>(by cases hc),by simp⟩
theorem Sk (hk:F3 k) {t k0 l r:Tm} (hkd:t.kids=[k0,l,r]) (f0:Fm k0) (f1:Fm l) (f2:Fm r) (fa:Fm (Tm.mk x1 x2 x3 x4 x5 x6)) (hp:RX true phi) (J:Int×Int×BA×LT×Int->OS S):
  ∃ks c,B5 k t 0 phi x1 x2 x3 x4 x5 x6 J=J (12,0,au,ks,c)/\(aF 12 ks,c)=m7 phi k0 l r (Tm.mk x1 x2 x3 x4 x5 x6)/\In k (aF 12 ks):=by
 have g0:ao t.kids 0=some k0:=ld (n:=0) rfl (by rw [hkd];rfl)
 have g1:ao t.kids 1=some l:=ld (n:=1) rfl (by rw [hkd];rfl)
 have g2:ao t.kids 2=some r:=ld (n:=2) rfl (by rw [hkd];rfl)
 have ia:=fa.isIn hk
 unfold m7
 dsimp only
 generalize hu:mM 0 (aP 0 [] l)=u
 generalize hv:mM u.2 (aP 0 [] r)=v
 generalize hL:mM v.2 (lL k0)=L
 have qu:Q2 u.1:=by rw [<-hu];exact kz fun t h=>vB f1.ok h
 have qv:Q2 v.1:=by rw [<-hv];exact kz fun t h=>vB f2.ok h
 have qL:Q2 L.1:=by rw [<-hL];exact kz fun t h=>aj2 f0.ok h
 have hb0:=fun c=>KJ (b:=1) (r:=[⟨1,0⟩]) (c:=c) (by omega) fa.ok qu.1.ok qv.1.ok (uX (by omega) (by omega))
 have hb2:=fun c=>KJ (b:=2) (r:=[⟨2,0⟩]) (c:=c) (by omega) fa.ok qu.1.ok qv.1.ok (uX (by omega) (by omega))
 have sb:=hb0 L.2
 have at1:=fun (g:Int×Int×BA×LC×LT×Int->OS S)=>Sj (phi:=phi) hk (b:=1) (c:=L.2) (by omega) (r:=⟨1,0⟩) ia (qu.isIn hk) (qv.isIn hk) g
 generalize hbb:jW 1 [⟨1,0⟩] (Tm.mk x1 x2 x3 x4 x5 x6) u.1 v.1 L.2=b at sb at1 ⊢
 have fin: ∀ (s:LB×Int),j8 60001 s.1->s.1.length<=10->
   (∀c,FN (mM c (iG 1 1 l)).1)/\(∀c,FN (mM c (iG 1 1 r)).1)/\
   ∀l1 r1:Tm×Int,FN l1.1->FN r1.1->In k (dR (s.1++[⟨[⟨0,1⟩],[l1.1]⟩]++[⟨[⟨1,0⟩],[r1.1]⟩])):=fun s hs hl=>by
  refine ⟨fun c=>pZ fun t h=>B9 (by omega) f1.ok h,fun c=>pZ fun t h=>B9 (by omega) f2.ok h,fun l1 r1 h1 h2=> ?_⟩
  have hbr:j8 60001 (s.1++[⟨[⟨0,1⟩],[l1.1]⟩]++[⟨[⟨1,0⟩],[r1.1]⟩]):=AR (AR hs (AS (uX (by omega) (by omega)) (h1.sm.1.mono (by omega)) (by have:=h1.sm.2;omega) (tw _))) (AS (uX (by omega) (by omega)) (h2.sm.1.mono (by omega)) (by have:=h2.sm.2;omega) (tw _))
  obtain ⟨b1,b2⟩:=FE hbr
  exact Tk hk (by omega) b1 (by simp;omega) b2
 have last: ∀ {c:Int} {bb:Tm} {sys:LB},In k bb->In k (dR sys)->In k (aF 12 [(mM c (ej [L.1,bb,dR sys] (iD L.1 bb sys))).1]):=by
  intro c bb sys h1 h2
  have q:=(L9 hk (qL.isIn hk) h1 h2 c).sm
  have:=vv (kd:=12) (by omega) (n:=20000) (ks:=[(mM c (ej [L.1,bb,dR sys] (iD L.1 bb sys))).1]) (fun x hx=>by
   rw [ju] at hx;subst hx
   exact ⟨q.1,by have:=q.2;omega⟩) (by simp)
  exact this.1.isIn hk (by omega)
 have ib:In k b.1:=sb.1.isIn hk (by omega)
 simp only [B5,ap hk.fu,aO,g0,g1,g2,aV,d8,eV]
 rw [za hk (fun _=>f1.isIn hk) DS,hu,za hk (fun _=>f2.isIn hk) DS,hv,aiu hk (f0.isIn hk),hL]
 obtain ⟨ks1,h1,h2⟩:=at1 _
 rw [h1]
 dsimp only
 by_cases hl:phi.length=0
 ·rw [decide_eq_false (by omega),ae]
  obtain ⟨fl,fr,fw⟩:=fin ([],b.2) (tw _) (by simp)
  have hst:py phi (Tm.mk x1 x2 x3 x4 x5 x6) u.1 v.1 b.2=([],b.2):=if_pos hl
  rw [hst]
  dsimp only
  generalize hl1:mM b.2 (iG 1 1 l)=l1
  generalize hr1:mM l1.2 (iG 1 1 r)=r1
  have fl1:FN l1.1:=hl1▸fl _
  have fr1:FN r1.1:=hr1▸fr _
  have iw:=fw l1 r1 fl1 fr1
  dsimp only at iw ⊢
  rw [fq] at iw ⊢
  refine ⟨_,_, ?_,rfl,last ib iw⟩
  rw [y_ hk (fun _=>f1.isIn hk) (by omega),hl1,cX (by simp),y_ hk (fun _=>f2.isIn hk) (by omega),hr1,cX (by simp),h2,IZ hk (fun _=>⟨qL.isIn hk,ib,iw⟩) (fun e h=>D6 (fun e h=>wJ h) h)]
 ·rw [decide_eq_true (by omega),al]
  have hst:py phi (Tm.mk x1 x2 x3 x4 x5 x6) u.1 v.1 b.2=([⟨(lA b.2 phi).1,[(jW 2 [⟨2,0⟩] (Tm.mk x1 x2 x3 x4 x5 x6) u.1 v.1 (lA b.2 phi).2).1]⟩],(jW 2 [⟨2,0⟩] (Tm.mk x1 x2 x3 x4 x5 x6) u.1 v.1 (lA b.2 phi).2).2):=if_neg hl
  rw [hst]
  dsimp only
  have hro:=ahX (c:=b.2) hp.1
  have hrow:(if b.2=0 then cm phi 0 1 else ([],b.2))=lA b.2 phi:=rfl
  rw [Sd hk hp.1.2 (fj hp).2 (by omega),hrow]
  generalize lA b.2 phi=f at hro ⊢
  obtain ⟨ks2,h3,h4⟩:=Sj (phi:=phi) hk (b:=2) (c:=f.2) (by omega) (r:=⟨2,0⟩) ia (qu.isIn hk) (qv.isIn hk) _
  rw [h3]
  have sq:=hb2 f.2
  generalize jW 2 [⟨2,0⟩] (Tm.mk x1 x2 x3 x4 x5 x6) u.1 v.1 f.2=q at h4 sq ⊢
  dsimp only
  obtain ⟨fl,fr,fw⟩:=fin ([⟨f.1,[q.1]⟩],q.2) (AS hro sq.1 (by have:=sq.2;omega) (tw _)) (by simp)
  generalize hl1:mM q.2 (iG 1 1 l)=l1
  generalize hr1:mM l1.2 (iG 1 1 r)=r1
  have fl1:FN l1.1:=hl1▸fl _
  have fr1:FN r1.1:=hr1▸fr _
  have iw:=fw l1 r1 fl1 fr1
  refine ⟨_,_, ?_,rfl,last ib iw⟩
  rw [cX (by simp),y_ hk (fun _=>f1.isIn hk) (by omega),hl1,cX (by simp),y_ hk (fun _=>f2.isIn hk) (by omega),hr1,cX (by simp),h2,h4,IZ hk (fun _=>⟨qL.isIn hk,ib,iw⟩) (fun e h=>D6 (fun e h=>wJ h) h)]
end
end Go.Proofs.YtgajalidbabccaaGreatDoor
namespace Go.Proofs.YtgajalidbabccaaGreatDoor
open Go PI
set_option maxRecDepth 20000
section
variable {kd:Int}
theorem Ko (t:Tm): ∀ {V D:Int},aE true V D t=true->aE false V D t=true:=by
 induction t using gi with
 |h kd n nm r ks sys ih1 ih2=>
  intro V D h
  have hk: ∀ {l:LT} {i:Nat},(∀x∈l,∀ {V D:Int},aE true V D x=true->aE false V D x=true)->bO true V D kd i l=true->bO false V D kd i l=true:=by
   intro l
   induction l<;>grind [bO]
  rw [aE,ak,ak,ak] at h ⊢
  refine ⟨rfl,h.2.1,hk ih1 h.2.2.1, ?_⟩
  have:=h.2.2.2
  rw [rq,d7] at this ⊢
  intro b hb
  have:=this b hb
  rw [d7] at this ⊢
  exact fun x hx=>ih2 b hb x hx (this x hx)
theorem D9 (t:Tm): ∀ {V D:Int},aE false V D t=true->D+aZ t<=24->aE true V D t=true:=by
 induction t using gi with
 |h kd n nm r ks sys ih1 ih2=>
  intro V D h hb
  rw [aZ] at hb
  have p1:=Fr kd ks 0
  have hk: ∀ {l:LT} {i:Nat},(∀x∈l,∀ {V D:Int},aE false V D x=true->D+aZ x<=24->aE true V D x=true)->bO false V D kd i l=true->D+dA kd i l<=24->bO true V D kd i l=true:=by
   intro l
   induction l with
   |nil=>intro i _ _ _;rw [bO]
   |cons t l ih=>
    intro i h ha hb
    rw [bO,ak] at ha ⊢
    rw [dA] at hb
    exact ⟨h t (by simp) ha.1 (by omega),ih (fun x hx=>h x (by simp [hx])) ha.2 (by omega)⟩
  have hs: ∀ {l:LB},(∀b∈l,∀x∈b.kids,∀ {V D:Int},aE false V D x=true->D+aZ x<=24->aE true V D x=true)->aY false V D kd l=true->D+dO l<=24->aY true V D kd l=true:=by
   intro l
   induction l with
   |nil=>intro _ _ _;rw [aY]
   |cons b l ih=>
    intro h ha hb
    obtain ⟨f,ks'⟩:=b
    rw [aY,iQ,ak] at ha ⊢
    rw [dO,lP] at hb
    have hm: ∀ {l:LT},(∀x∈l,∀ {V D:Int},aE false V D x=true->D+aZ x<=24->aE true V D x=true)->cQ false V D kd l=true->D+ei l<=24->cQ true V D kd l=true:=by
     intro l
     induction l with
     |nil=>intro _ _ _;rw [cQ]
     |cons t l ih=>
      intro h ha hb
      rw [cQ,ak] at ha ⊢
      rw [ei] at hb
      have:=iZ kd
      exact ⟨h t (by simp) ha.1 (by omega),ih (fun x hx=>h x (by simp [hx])) ha.2 (by omega)⟩
    have hb':D+max (ei ks') (dO l)<=24:=hb
    exact ⟨hm (l:=ks') (h ⟨f,ks'⟩ (by simp)) ha.1 (by omega),ih (fun b hb=>h b (by simp [hb])) ha.2 (by omega)⟩
  rw [aE,ak,ak,ak] at h ⊢
  exact ⟨by rw [decide_eq_false (by omega)];rfl,h.2.1,hk ih1 h.2.2.1 (by omega),hs ih2 h.2.2.2 (by omega)⟩
end
abbrev bW (V D:Int) (t:Tm):Prop:=aE false V D t=true
theorem Ev {vb db:Int} (hvb:0<=vb) (hdb:0<=db) {v d V D:Int} {t t':Tm} (hd:0<=d) (hV:0<=V) (hf:Fm t) (h:bW V D t) (hl:dm vb db v d t= .ok t'):bW (V+vb) (D+db) t':=
 Sv hvb hdb t hd hV hf.ok hf.rows h (fun e=>by cases e) hl
theorem vF {V D a b:Int} {t t':Tm} (hf:Fm t) (ha:0<=a/\a<=1000000000) (hb:0<=b) (hV:0<=V) (hs:bW V D t) (h:ep a b t= .ok t'):bW (V+a) (D+b) t':=by
 obtain ⟨m,h1,h2⟩:=ar h
 have fm:=ku (by omega) hf h1
 have s2:=Ev (eD 0) hb (eD 0) (by omega) fm (Ev ha.1 (by decide) (eD 0) hV hf hs h1) h2
 rw [dH,dH] at s2;exact s2
theorem zp {V D:Int} {r:LC} {t t':Tm} (hf:Fm t) (hD:0<=D) (hr:RF r) (hl:a7 r D=true) (hs:bW V (D+1) t) (h:dQ 0 r t= .ok t'):bW V D t':=by
 unfold dQ at h
 obtain ⟨s,e1,h⟩:=ar h
 obtain ⟨h0,rfl⟩:=j7 e1
 refine Sw (c:=D) (lj h0) ?_ t (eD 0) hD (by omega) hf.ok hf.rows hs h
 exact CX (n:=0) hr h0 (ma ((jk hr).1 hl) fun j hj=>by
  have:il 0 1 j=j+1:=by unfold il;rw [if_neg (by omega)]
  rw [this];omega)
abbrev zz (n V D:Int) (u x:Tm):Prop:= ∀ {v d:Int} {o:Tm},0<=v->v+ah x<=1000->0<=d->bW (V+v+1) (D+d) x->fS n u v d x= .ok o->bW (V+v) (D+d) o
section
variable {n V D kd:Int} {u:Tm}
theorem Em {W v:Int} (h:0<=W):cq W v=W+v:=by unfold cq;rw [if_neg (by omega)]
theorem agx (hV:0<=V): ∀ {l l':LT} {i:Nat} {v d:Int},(∀x∈l,zz n V D u x)->0<=v->v+az l+1<=1000->0<=d->bO false (V+v+1) (D+d) kd i l=true->iN n u v d kd i l= .ok l'->bO false (V+v) (D+d) kd i l'=true/\l'.length=l.length:=by
 intro l
 induction l with
 |nil=>intro l' i v d _ _ _ _ _ h;rw [iN] at h;injection h with h;subst h;exact ⟨by rw [bO],rfl⟩
 |cons t l ih=>
  intro l' i v d h hv hb hd ha hl
  rw [iN] at hl
  obtain ⟨t',e1,hl⟩:=ar hl
  obtain ⟨m,e2,hl⟩:=ar hl
  injection hl with hl;subst hl
  rw [bO,ak] at ha ⊢
  rw [az] at hb
  have b1:=pG kd i;have b2:=iz kd i
  obtain ⟨q1,q2⟩:=ih (fun x hx=>h x (by simp [hx])) hv (by omega) hd ha.2 e2
  refine ⟨⟨?_,q1⟩,by rw [dv,dv,q2]⟩
  have:=ha.1
  rw [Em (by omega),show V+v+1+b8 kd i=V+(v+b8 kd i)+1 by omega,show D+d+bL kd i=D+(d+bL kd i) by omega] at this
  rw [Em (by omega),show V+v+b8 kd i=V+(v+b8 kd i) by omega,show D+d+bL kd i=D+(d+bL kd i) by omega]
  exact h t (by simp) (by omega) (by omega) (by omega) this e1
theorem agy: ∀ {l l':LT} {v d:Int},(∀x∈l,zz n V D u x)->0<=v->v+az l+1<=1000->0<=d->cQ false (V+v+1) (D+d) kd l=true->i_ n u v d kd l= .ok l'->cQ false (V+v) (D+d) kd l'=true/\l'.length=l.length:=by
 intro l
 induction l with
 |nil=>intro l' v d _ _ _ _ _ h;rw [i_] at h;injection h with h;subst h;exact ⟨by rw [cQ],rfl⟩
 |cons t l ih=>
  intro l' v d h hv hb hd ha hl
  rw [i_] at hl
  obtain ⟨t',e1,hl⟩:=ar hl
  obtain ⟨m,e2,hl⟩:=ar hl
  injection hl with hl;subst hl
  rw [cQ,ak] at ha ⊢
  rw [az] at hb
  have b2:=iZ kd
  obtain ⟨q1,q2⟩:=ih (fun x hx=>h x (by simp [hx])) hv (by omega) hd ha.2 e2
  refine ⟨⟨?_,q1⟩,by rw [dv,dv,q2]⟩
  have:=ha.1
  rw [show D+d+aS kd=D+(d+aS kd) by omega] at this ⊢
  exact h t (by simp) hv (by omega) (by omega) this e1
theorem agz: ∀ {l l':LB} {v d:Int},(∀b∈l,∀x∈b.kids,zz n V D u x)->0<=v->v+aN l+1<=1000->0<=d->aY false (V+v+1) (D+d) kd l=true->gF n u v d kd l= .ok l'->aY false (V+v) (D+d) kd l'=true/\l'.length=l.length/\l'.all (bR kd (D+d))=l.all (bR kd (D+d)):=by
 intro l
 induction l with
 |nil=>intro l' v d _ _ _ _ _ h;rw [gF] at h;injection h with h;subst h;exact ⟨by rw [aY],rfl,rfl⟩
 |cons b l ih=>
  intro l' v d h hv hb hd ha hl
  rw [gF] at hl
  obtain ⟨b',e1,hl⟩:=ar hl
  obtain ⟨m,e2,hl⟩:=ar hl
  injection hl with hl;subst hl
  obtain ⟨f,ks⟩:=b
  rw [yE] at e1
  obtain ⟨ks',e3,e1⟩:=ar e1
  injection e1 with e1;subst e1
  rw [aY,iQ,ak] at ha ⊢
  rw [aN,ji] at hb
  obtain ⟨q1,q2,q3⟩:=ih (fun b hb=>h b (by simp [hb])) hv (by omega) hd ha.2 e2
  obtain ⟨p1,p2⟩:=agy (kd:=kd) (l:=ks) (h ⟨f,ks⟩ (by simp)) hv (by omega) hd ha.1 e3
  refine ⟨⟨p1,q1⟩,by rw [dv,dv,q2], ?_⟩
  have:bR kd (D+d) ⟨f,ks'⟩=bR kd (D+d) ⟨f,ks⟩:=by unfold bR;simp only [p2]
  rw [iO,iO,this,q3]
theorem akX (hn:0<=n) (hnV:n<=V) (hD:0<=D) (hf:Fm u) (hu:bW V D u) (t:Tm):zz n V D u t:=by
 induction t using gi with
 |h kd m nm r ks sys ih1 ih2=>
  intro v d o hv hb hd ha h
  rw [fS] at h
  rw [ah] at hb
  split at h
  ·exact vF hf (by omega) hd (by omega) hu h
  ·rename_i hc
   obtain ⟨ks',e2,h⟩:=ar h
   obtain ⟨sys',e3,h⟩:=ar h
   injection h with h;subst h
   unfold bW at ha ⊢
   rw [aE] at ha ⊢
   simp only [Bool.false_and,dr,Bool.true_and,ak] at ha ⊢
   obtain ⟨q2,q3,q4⟩:=ha
   obtain ⟨k1,k2⟩:=agx (by omega) ih1 hv (by omega) hd q3 e2
   obtain ⟨s1,s2,s3⟩:=agz ih2 hv (by omega) hd q4 e3
   refine ⟨?_,k1,s1⟩
   unfold dL at q2 ⊢
   simp only [ak,decide_eq_true_eq] at q2 ⊢
   rw [k2,s2,s3]
   obtain ⟨⟨a1,a2,a3,a4⟩,a5⟩:=q2
   refine ⟨⟨a1, ?_,a3,a4⟩, ?_⟩
   ·by_cases c:kd=1
    ·exact .inl c
    ·exact .inr (by rw [if_neg (fun h=>c h.1)];exact a2.resolve_left c)
   ·by_cases c1:kd=1
    ·rw [if_pos c1] at a5 ⊢
     simp only [ak,decide_eq_true_eq] at a5 ⊢
     have: ¬m=n+v:=fun e=>hc ⟨c1,e⟩
     refine ⟨a5.1, ?_,.inr ?_⟩
     ·split<;>omega
     ·split<;>omega
    ·rw [if_neg c1] at a5 ⊢;exact a5
end
theorem akY {V D:Int} (hV:0<=V) (hD:0<=D) {t u o:Tm} (ht:Fm t) (hf:Fm u) (hu:bW V D u) (hs:bW (V+1) D t) (h:ls 0 t u= .ok o):bW V D o:=by
 unfold ls at h
 split at h
 ·cases h
 obtain ⟨o',h1,h⟩:=ar h
 split at h
 ·cases h
 injection h with h;subst h
 have:=(iX ht.2).1
 have:=akX (eD 0) hV hD hf hu t (eD 0) (by omega) (eD 0) (by rw [dH,dH];exact hs) h1
 rw [dH,dH] at this;exact this
variable {S:Type} {k:Nat}
theorem Eg {r:LC} {t y:Tm} (ht:Fm t) (hr:RF r) (hl:a7 r 24=true) (h:dQ 0 r t= .ok y):Fm y:=by
 obtain ⟨q1,q2,q3⟩:=vA ht h
 have ha:=(iX ht.2).2.2
 have hs:bW (-1) (24+1) t:=by
  show aE false (-1) (24+1) t=true
  rw [nh t (d:=24+1) (d':=24) (by decide) (by decide)];exact ha
 have hw:=zp ht (by decide) hr hl hs h
 refine ⟨q1, ?_⟩
 unfold ck
 rw [if_neg (by omega),if_neg (by omega),if_pos hw]
theorem xX {D:Int} (hD:0<=D):a7 [⟨0,0⟩] D=true:=mO (d:=0) nW (by decide) hD
theorem nO {D:Int} (hD:0<=D):a7 [] D=true:=mO (d:=0) ja (by decide) hD
theorem JX {t y:Tm} (ht:Fm t) (h:dQ 0 [] t= .ok y):Fm y:=Eg ht ja (nO (by decide)) h
theorem aj7 {t y:Tm} (ht:Fm t) (h:dQ 0 [⟨0,0⟩] t= .ok y):Fm y:=Eg ht nW (xX (by decide)) h
def oH (c:Cl):Bool:= !(iY (lr c.pos c.neg) 0)
def j_ (f:LC):LC×Int:=du (f.filter oH)
theorem aeh (hk:Fu k) (J:LC->OS S) {l:LC} (hl:av l) (hlen:l.length<2147483648):
  ∀ (r p:LC) (m:Nat) (o:LC),l=p++r->r.length<m->o.length+r.length<4294967296->ul k J 0 l m (p.length:Int) o=J (o++r.filter oH):=by
 intro r
 induction r with
 |nil=>
  intro p m o h hm ho
  obtain ⟨m,rfl,hm'⟩:=aw hm
  simp only [ul,zY,eP h,ae,List.filter_nil,eZ]
 |cons x r ih=>
  intro p m o h hm ho
  obtain ⟨m,rfl,hm'⟩:=aw hm
  obtain ⟨e1,e2,e3,e4⟩:=bM h (by omega)
  have hx:cO x:=hl x (by rw [h];simp)
  simp only [dv] at ho
  have hU:U32 (lr x.pos x.neg):=C7 hx.1 hx.2
  simp only [ul,zY,e1,al,e2,aV,ap hk,FZ,yC hx.1 hx.2,ti hk hU,e3]
  show ac (oH x) _ _=_
  cases hf:oH x with
  |true=>
   rw [al,cX (by simp;omega),ih (p++[x]) m (o++[x]) e4 hm' (by rw [List.length_append,List.length_singleton];omega),List.filter_cons_of_pos hf,List.append_assoc];rfl
  |false=>
   rw [ae,ih (p++[x]) m o e4 hm' (by omega),List.filter_cons_of_neg (by rw [hf];decide)]
theorem aiB (hk3:F3 k) {f:LC} (hf:av f) (hr:bV f=true) (hlen:f.length<2147483648) (J:LC×Int->OS S):Bg k f 0 J=J (j_ f):=by
 have hfu:4294968296<=k:=hk3
 have hk:=hk3.fu
 have ho:av (f.filter oH):=fun c hc=>hf c (List.mem_filter.1 hc).1
 have hl:=List.length_filter_le oH f
 simp only [Bg,ap hk,vt hk hf hlen,hr,dT,ae,R1 hk]
 rw [show (!(decide ((0:Int)<=0/\(0:Int)<24)))=false from by decide,ae]
 simp only [F0,Jn]
 rw [show ((0:Int))=((([]:LC).length:Nat):Int) from rfl]
 refine (aeh hk _ hf hlen f [] k [] rfl (by omega) (by simp;omega)).trans ?_
 rw [fq,nZ hk ho (by omega)]
 rfl
theorem Fh {f:LC} (h:RX true f):(j_ f).2=0/\RX true (j_ f).1/\(∀Φ:Nat->Prop,co Φ f->co Φ (j_ f).1):=by
 have hs: ∀c∈f.filter oH,c∈f:=fun c hc=>(List.mem_filter.1 hc).1
 have h0:(j_ f).2=0:=He (fun c hc=>h.1.rc (hs c hc)) (by have:=h.1.len;have:=List.length_filter_le oH f;omega)
 have ho:av (f.filter oH):=fun c hc=>h.1.2 c (hs c hc)
 have:=Hc ho (fun c hc=>h.2 rfl c (hs c hc)) h0
 exact ⟨h0,⟨this.1,fun _=>this.2⟩,fun Φ hl=>sP (Hn hl hs)⟩
def gj (c:Int) (f:LC):LC×Int:=
 if c=0 then ((tE (aP 0 [] (dE (j_ f).1 ik ik))).1.r,(tE (aP 0 [] (dE (j_ f).1 ik ik))).2) else ([],c)
theorem uni_q:Q2 ik:=by
 refine ⟨⟨?_, ?_, ?_⟩, ?_⟩
 ·rw [OkT,aU,a_];exact ⟨⟨by unfold aR;omega,by unfold aR;omega,by decide,(fun c hc=>by cases hc),by simp,by simp,by simp⟩,trivial,trivial⟩
 ·rw [aA,ax,aM];omega
 ·rw [ah,az,aN];omega
 ·rw [ah,az,aN];omega
theorem akj {r:LC} (h:RX true r) (hk:F3 k):In k (dE r ik ik):=by
 have:=lH (fj h) uni_q.1 uni_q.1 (by have:=uni_q.2;omega) (by have:=uni_q.2;omega)
 exact this.isIn hk (by omega)
theorem aiR (hk:F3 k) {f:LC} {c:Int} (h:RX true f) (J:LC×Int->OS S):BS k f c J=J (gj c f):=by
 simp only [BS,ap hk.fu,ef,aO,lD]
 unfold gj
 by_cases hc:c=0
 case neg=>rw [fZ hc,dr,al,if_neg hc]
 subst hc
 obtain ⟨a0,a1,_⟩:=Fh h
 have hlen:=(fj h).2
 have hr:bV f=true:=RFa.right ⟨h.1,h.2 rfl⟩
 rw [show (!((0:Int)==0))=false from rfl,ae,aiB hk h.1.2 hr (by omega)]
 rw [a0]
 simp only [if_pos]
 rw [show (!((0:Int)==0))=false from rfl,ae]
 simp only [d8,rE]
 have e:Tm.mk 14 0 au (j_ f).1 [Tm.mk 3 0 au [] [] [],Tm.mk 3 0 au [] [] []] []=dE (j_ f).1 ik ik:=rfl
 rw [e,IS hk (akj a1 hk) (i:=0) (by decide) ja]
 cases aP 0 [] (dE (j_ f).1 ik ik) with
 |error e=>
  show J (noT.r,_)=J (noT.r,e)
  by_cases he:e=0
  ·subst he;rfl
  ·rw [show (tE (.error e)).2=e from rfl,if_neg he]
 |ok y=>rfl
end Go.Proofs.YtgajalidbabccaaGreatDoor
