/- hypercubelaw18.GlueMay returns true for every term and any numbers of variables and dimensions: what a term of a glued type that may be becomes may be; the card with an upper bound of the input's bulk. -/
import Derived.Test.YtgajalidbabccaaGreatDoorX5
import Derived.KernelRfl
open Bool renaming and_eq_true→af,not_eq_true'→jd,not_false→ef,not_true→dL
open ByteArray renaming empty→aw
open Eq renaming trans→aq
open Go.IntKind renaming wrap→aj
open Int renaming add_zero→eb,le_refl→f_
open List renaming all_cons→fq,all_eq_true→dU,append_nil→eN,length_cons→er,map_cons→iG,mem_append→eu,mem_cons→eh,mem_map→dA,nil_append→eF
open Nat renaming le_refl→ee,le_trans→fC
open Option renaming bind→ag,bind_some→bD
set_option linter.unusedVariables false
set_option linter.unusedSimpArgs false
namespace Go.Proofs.YtgajalidbabccaaGreatDoor
open Go PI
set_option maxRecDepth 20000
variable {S:Type} {k:Nat}
section
variable {phi:LC} {x1 x2:Int} {x3:BA} {x4:LC} {x5:LT} {x6:LB}
end
end Go.Proofs.YtgajalidbabccaaGreatDoor
namespace Go.Proofs.YtgajalidbabccaaGreatDoor
open Go PI
set_option maxRecDepth 20000
section
variable {kd:Int}
theorem acC {V D:Int} {t:Tm} (h:aE true V D t=true):D<=24:=by
 cases t
 rw [aE] at h
 simp only [Bool.true_and,af,jd,decide_eq_false_iff_not] at h
 omega
theorem Qj (t:Tm): ∀ {V D:Int},aE true V D t=true->aE false V D t=true:=by
 induction t using ik with
 |h kd n nm r ks sys ih1 ih2=>
  intro V D h
  have hk: ∀ {l:LT} {i:Nat},(∀x∈l,∀ {V D:Int},aE true V D x=true->aE false V D x=true)->bK true V D kd i l=true->bK false V D kd i l=true:=by
   intro l
   induction l<;>grind [bK]
  rw [aE,af,af,af] at h ⊢
  refine ⟨rfl,h.2.1,hk ih1 h.2.2.1, ?_⟩
  have:=h.2.2.2
  rw [lk,dU] at this ⊢
  intro b hb
  have:=this b hb
  rw [dU] at this ⊢
  exact fun x hx=>ih2 b hb x hx (this x hx)
theorem af0 (t:Tm): ∀ {V D:Int},aE false V D t=true->D+aO t<=24->aE true V D t=true:=by
 induction t using ik with
 |h kd n nm r ks sys ih1 ih2=>
  intro V D h hb
  rw [aO] at hb
  have p1:=C6 kd ks 0
  have hk: ∀ {l:LT} {i:Nat},(∀x∈l,∀ {V D:Int},aE false V D x=true->D+aO x<=24->aE true V D x=true)->bK false V D kd i l=true->D+dD kd i l<=24->bK true V D kd i l=true:=by
   intro l
   induction l with
   |nil=>intro i _ _ _;rw [bK]
   |cons t l ih=>
    intro i h ha hb
    rw [bK,af] at ha ⊢
    rw [dD] at hb
    exact ⟨h t (by simp) ha.1 (by omega),ih (fun x hx=>h x (by simp [hx])) ha.2 (by omega)⟩
  have hs: ∀ {l:LB},(∀b∈l,∀x∈b.kids,∀ {V D:Int},aE false V D x=true->D+aO x<=24->aE true V D x=true)->aL false V D kd l=true->D+dw l<=24->aL true V D kd l=true:=by
   intro l
   induction l with
   |nil=>intro _ _ _;rw [aL]
   |cons b l ih=>
    intro h ha hb
    obtain ⟨f,ks'⟩:=b
    rw [aL,g8,af] at ha ⊢
    rw [dw,jy] at hb
    have hm: ∀ {l:LT},(∀x∈l,∀ {V D:Int},aE false V D x=true->D+aO x<=24->aE true V D x=true)->dn false V D kd l=true->D+dN l<=24->dn true V D kd l=true:=by
     intro l
     induction l with
     |nil=>intro _ _ _;rw [dn]
     |cons t l ih=>
      intro h ha hb
      rw [dn,af] at ha ⊢
      rw [dN] at hb
      have:=jM kd
      exact ⟨h t (by simp) ha.1 (by omega),ih (fun x hx=>h x (by simp [hx])) ha.2 (by omega)⟩
    have hb':D+max (dN ks') (dw l)<=24:=hb
    exact ⟨hm (l:=ks') (h ⟨f,ks'⟩ (by simp)) ha.1 (by omega),ih (fun b hb=>h b (by simp [hb])) ha.2 (by omega)⟩
  rw [aE,af,af,af] at h ⊢
  exact ⟨by rw [decide_eq_false (by omega)];rfl,h.2.1,hk ih1 h.2.2.1 (by omega),hs ih2 h.2.2.2 (by omega)⟩
end
abbrev cq (V D:Int) (t:Tm):Prop:=aE false V D t=true
theorem H3 {vb db:Int} (hvb:0<=vb) (hdb:0<=db) {v d V D:Int} {t t':Tm} (hd:0<=d) (hV:0<=V) (hf:Fm t) (h:cq V D t) (hl:dP vb db v d t= .ok t'):cq (V+vb) (D+db) t':=
 BP hvb hdb t hd hV hf.ok hf.rows h (fun e=>by cases e) hl
theorem xd {V D a b:Int} {t t':Tm} (hf:Fm t) (ha:0<=a/\a<=1000000000) (hb:0<=b) (hV:0<=V) (hs:cq V D t) (h:cG a b t= .ok t'):cq (V+a) (D+b) t':=by
 obtain ⟨m,h1,h2⟩:=am h
 have fm:=nD (by omega) hf h1
 have s2:=H3 (f_ 0) hb (f_ 0) (by omega) fm (H3 ha.1 (by decide) (f_ 0) hV hf hs h1) h2
 rw [eb,eb] at s2;exact s2
theorem xb {V D:Int} {r:LC} {t t':Tm} (hf:Fm t) (hD:0<=D) (hr:RF r) (hl:bM r D=true) (hs:cq V (D+1) t) (h:eS 0 r t= .ok t'):cq V D t':=by
 unfold eS at h
 obtain ⟨s,e1,h⟩:=am h
 obtain ⟨h0,rfl⟩:=ju e1
 refine Ps (c:=D) (km h0) ?_ t (f_ 0) hD (by omega) hf.ok hf.rows hs h
 exact E1 (n:=0) hr h0 (kU ((jL hr).1 hl) fun j hj=>by
  have:il 0 1 j=j+1:=by unfold il;rw [if_neg (by omega)]
  rw [this];omega)
section
variable {n V D kd:Int} {u:Tm}
end
variable {S:Type} {k:Nat}
theorem HJ {r:LC} {t y:Tm} (ht:Fm t) (hr:RF r) (hl:bM r 24=true) (h:eS 0 r t= .ok y):Fm y:=by
 obtain ⟨q1,q2,q3⟩:=HI ht h
 have ha:=(jm ht.2).2.2
 have hs:cq (-1) (24+1) t:=by
  show aE false (-1) (24+1) t=true
  rw [ra t (d:=24+1) (d':=24) (by decide) (by decide)];exact ha
 have hw:=xb ht (by decide) hr hl hs h
 refine ⟨q1, ?_⟩
 unfold dl
 rw [if_neg (by omega),if_neg (by omega),if_pos hw]
theorem vT {D:Int} (hD:0<=D):bM [⟨0,0⟩] D=true:=oP (d:=0) lV (by decide) hD
theorem qx {D:Int} (hD:0<=D):bM [] D=true:=oP (d:=0) jq (by decide) hD
theorem HH {t y:Tm} (ht:Fm t) (h:eS 0 [] t= .ok y):Fm y:=HJ ht jq (qx (by decide)) h
theorem PM {t y:Tm} (ht:Fm t) (h:eS 0 [⟨0,0⟩] t= .ok y):Fm y:=HJ ht lV (vT (by decide)) h
def nh (c:Cl):Bool:= !(ie (ku c.pos c.neg) 0)
def jx (f:LC):LC×Int:=dE (f.filter nh)
theorem aaz (hk:Fu k) (J:LC->OS S) {l:LC} (hl:av l) (hlen:l.length<2147483648):
  ∀ (r p:LC) (m:Nat) (o:LC),l=p++r->r.length<m->o.length+r.length<4294967296->sE k J 0 l m (p.length:Int) o=J (o++r.filter nh):=by
 intro r
 induction r with
 |nil=>
  intro p m o h hm ho
  obtain ⟨m,rfl,hm'⟩:=ax hm
  simp only [sE,xJ,eL h,ak,List.filter_nil,eN]
 |cons x r ih=>
  intro p m o h hm ho
  obtain ⟨m,rfl,hm'⟩:=ax hm
  obtain ⟨e1,e2,e3,e4⟩:=bL h (by omega)
  have hx:cH x:=hl x (by rw [h];simp)
  simp only [er] at ho
  have hU:U32 (ku x.pos x.neg):=AR hx.1 hx.2
  simp only [sE,xJ,e1,au,e2,bD,ao hk,DE,wq hx.1 hx.2,qO hk hU,e3]
  show ac (nh x) _ _=_
  cases hf:nh x with
  |true=>
   rw [au,dm (by simp;omega),ih (p++[x]) m (o++[x]) e4 hm' (by rw [List.length_append,List.length_singleton];omega),List.filter_cons_of_pos hf,List.append_assoc];rfl
  |false=>
   rw [ak,ih (p++[x]) m o e4 hm' (by omega),List.filter_cons_of_neg (by rw [hf];decide)]
theorem aeE (hk3:F3 k) {f:LC} (hf:av f) (hr:cm f=true) (hlen:f.length<2147483648) (J:LC×Int->OS S):y8 k f 0 J=J (jx f):=by
 have hfu:4294968296<=k:=hk3
 have hk:=hk3.fu
 have ho:av (f.filter nh):=fun c hc=>hf c (List.mem_filter.1 hc).1
 have hl:=List.length_filter_le nh f
 simp only [y8,ao hk,tT hk hf hlen,hr,dL,ak,O8 hk]
 rw [show (!(decide ((0:Int)<=0/\(0:Int)<24)))=false from by decide,ak]
 simp only [DF,G9]
 rw [show ((0:Int))=((([]:LC).length:Nat):Int) from rfl]
 refine (aaz hk _ hf hlen f [] k [] rfl (by omega) (by simp;omega)).trans ?_
 rw [eF,mH hk ho (by omega)]
 rfl
theorem CX {f:LC} (h:RX true f):(jx f).2=0/\RX true (jx f).1/\(∀Φ:Nat->Prop,bZ Φ f->bZ Φ (jx f).1):=by
 have hs: ∀c∈f.filter nh,c∈f:=fun c hc=>(List.mem_filter.1 hc).1
 have h0:(jx f).2=0:=ES (fun c hc=>h.1.rc (hs c hc)) (by have:=h.1.len;have:=List.length_filter_le nh f;omega)
 have ho:av (f.filter nh):=fun c hc=>h.1.2 c (hs c hc)
 have:=ER ho (fun c hc=>h.2 rfl c (hs c hc)) h0
 exact ⟨h0,⟨this.1,fun _=>this.2⟩,fun Φ hl=>qw (E3 hl hs)⟩
def fK (c:Int) (f:LC):LC×Int:=
 if c=0 then ((tE (bX 0 [] (jv (jx f).1 dF dF))).1.r,(tE (bX 0 [] (jv (jx f).1 dF dF))).2) else ([],c)
theorem uni_q:Q2 dF:=by
 refine ⟨⟨?_, ?_, ?_⟩, ?_⟩
 ·rw [OkT,aK,bk];exact ⟨⟨by unfold aI;omega,by unfold aI;omega,by decide,(fun c hc=>by cases hc),by simp,by simp,by simp⟩,trivial,trivial⟩
 ·rw [aG,aD,aJ];omega
 ·rw [ap,bj,bB];omega
 ·rw [ap,bj,bB];omega
theorem agu {r:LC} (h:RX true r) (hk:F3 k):In k (jv r dF dF):=by
 have:=tV (g5 h) uni_q.1 uni_q.1 (by have:=uni_q.2;omega) (by have:=uni_q.2;omega)
 exact this.isIn hk (by omega)
theorem aeW (hk:F3 k) {f:LC} {c:Int} (h:RX true f) (J:LC×Int->OS S):zE k f c J=J (fK c f):=by
 simp only [zE,ao hk.fu,fE,aM,nP]
 unfold fK
 by_cases hc:c=0
 case neg=>rw [mb hc,ef,au,if_neg hc]
 subst hc
 obtain ⟨a0,a1,_⟩:=CX h
 have hlen:=(g5 h).2
 have hr:cm f=true:=RFa.right ⟨h.1,h.2 rfl⟩
 rw [show (!((0:Int)==0))=false from rfl,ak,aeE hk h.1.2 hr (by omega)]
 rw [a0]
 simp only [if_pos]
 rw [show (!((0:Int)==0))=false from rfl,ak]
 simp only [eK,pN]
 have e:Tm.mk 14 0 aw (jx f).1 [Tm.mk 3 0 aw [] [] [],Tm.mk 3 0 aw [] [] []] []=jv (jx f).1 dF dF:=rfl
 rw [e,Gz hk (agu a1 hk) (i:=0) (by decide) jq]
 cases bX 0 [] (jv (jx f).1 dF dF) with
 |error e=>
  show J (noT.r,_)=J (noT.r,e)
  by_cases he:e=0
  ·subst he;rfl
  ·rw [show (tE (.error e)).2=e from rfl,if_neg he]
 |ok y=>rfl
def cD {α β:Type} (F:Int->β->α×Int):Int->List β->List α×Int
 |c,[]=>([],c)
 |c,x::r=>((F c x).1::(cD F (F c x).2 r).1,(cD F (F c x).2 r).2)
theorem oq {α β:Type} {F:Int->β->α×Int}: ∀ {l:List β} {c:Int},(cD F c l).1.length=l.length:=by
 intro l
 induction l with
 |nil=>intro c;rfl
 |cons x l ih=>intro c;rw [cD,er,er,ih]
theorem vv {α β:Type} {F:Int->β->α×Int} {Q:α->Prop}: ∀ {l:List β} {c:Int},(∀x∈l,∀c,Q (F c x).1)-> ∀y∈(cD F c l).1,Q y:=by
 intro l
 induction l with
 |nil=>intro c _ y hy;cases hy
 |cons x l ih=>
  intro c h y hy
  rw [cD] at hy
  rcases eh.1 hy with rfl|hy
  ·exact h x (by simp) c
  ·exact ih (fun x hx=>h x (by simp [hx])) y hy
theorem pU {α β:Type} {F:Int->β->α×Int} (hF: ∀c x,(F c x).2=0->c=0): ∀ {l:List β} {c:Int},(cD F c l).2=0->c=0/\ ∀x∈l,(F 0 x).2=0/\(F 0 x).1∈(cD F c l).1:=by
 intro l
 induction l with
 |nil=>intro c h;exact ⟨h,fun x hx=>by cases hx⟩
 |cons x l ih=>
  intro c h
  rw [cD] at h ⊢
  obtain ⟨h1,h2⟩:=ih h
  have hc:=hF c x h1
  subst hc
  refine ⟨rfl,fun y hy=> ?_⟩
  rcases eh.1 hy with rfl|hy
  ·exact ⟨h1,by simp⟩
  ·exact ⟨(h2 y hy).1,List.mem_cons_of_mem _ (h2 y hy).2⟩
theorem zZ {α β:Type} {F:Int->β->α×Int} (hF: ∀c x,(F c x).2=0->c=0): ∀ {l:List β} {c:Int},(cD F c l).2=0->(cD F c l).1=l.map fun x=>(F 0 x).1:=by
 intro l
 induction l with
 |nil=>intro c h;rfl
 |cons x l ih=>
  intro c h
  rw [cD] at h ⊢
  have h1:=(pU hF h).1
  have hc:=hF c x h1
  subst hc
  rw [iG,ih h]
theorem Ea {α β:Type} {l:List β} {L:Nat->Int->Int->List α->OS S} {F:Int->β->α×Int} {J:List α×Int->OS S}
  (hend: ∀ (m:Nat) (c:Int) (acc:List α),acc.length=l.length->L (m+1) c (l.length:Int) acc=J (acc,c))
  (hstep: ∀ (m:Nat) (c:Int) (x:β) (p r:List β) (acc:List α),l=p++x::r->acc.length=p.length->L (m+1) c (p.length:Int) acc=L m (F c x).2 (((p++[x]).length:Nat):Int) (acc++[(F c x).1])):
  ∀ (r p:List β) (acc:List α) (m:Nat) (c:Int),l=p++r->r.length<m->acc.length=p.length->L m c (p.length:Int) acc=J (acc++(cD F c r).1,(cD F c r).2):=by
 intro r
 induction r with
 |nil=>
  intro p acc m c h hm ha
  obtain ⟨m,rfl,hm'⟩:=ax hm
  rw [eN] at h
  subst h
  rw [hend m c acc ha,cD,eN]
 |cons x r ih=>
  intro p acc m c h hm ha
  obtain ⟨m,rfl,hm'⟩:=ax hm
  rw [hstep m c x p r acc h ha,ih (p++[x]) _ m _ (by rw [h];simp) hm' (by simp [ha]),cD,List.append_assoc];rfl
def ej:Int->LB->LB×Int
 |c,[]=>([],c)
 |c,x::r=>if (fK c x.face).1.length=0 then ej (fK c x.face).2 r else (⟨(fK c x.face).1,x.kids⟩::(ej (fK c x.face).2 r).1,(ej (fK c x.face).2 r).2)
theorem Id {c:Int} {f:LC} (h:RX true f):av (fK c f).1/\(fK c f).1.length<1073741824:=by
 have hno:av ([]:LC)/\([]:LC).length<1073741824:=⟨fun c hc=>(by cases hc),by simp⟩
 unfold fK
 split
 ·have hk:OkT (jv (jx f).1 dF dF):=(tV (g5 (CX h).2.1) uni_q.1 uni_q.1 (by have:=uni_q.2;omega) (by have:=uni_q.2;omega)).ok
  cases hx:bX 0 [] (jv (jx f).1 dF dF) with
  |error e=>exact hno
  |ok y=>
   have:=(agj hk hx).1.ok.no
   exact ⟨this.2.2.2.1,this.2.2.2.2.1⟩
 ·exact hno
theorem af3: ∀ {l:LB} {c:Int},(ej c l).1.length<=l.length:=by
 intro l
 induction l with
 |nil=>intro c;exact ee _
 |cons x l ih=>
  intro c
  rw [ej]
  split
  ·have:=ih (c:=(fK c x.face).2);simp;omega
  ·have:=ih (c:=(fK c x.face).2);simp;omega
def iE (b:Br Tm):Prop:=b.kids=[aF b,k1 b]/\Fm (aF b)/\Fm (k1 b)/\av b.face/\b.face.length<1073741824
theorem af4: ∀ {l:LB} {c:Int},(∀b∈l,b.kids=[aF b,k1 b]/\Fm (aF b)/\Fm (k1 b)/\RX true b.face)-> ∀b∈(ej c l).1,iE b:=by
 intro l
 induction l with
 |nil=>intro c _ b hb;cases hb
 |cons x l ih=>
  intro c h b hb
  rw [ej] at hb
  obtain ⟨q1,q2,q3,q4⟩:=h x (by simp)
  split at hb
  ·exact ih (fun b hb=>h b (by simp [hb])) b hb
  ·rcases eh.1 hb with rfl|hb
   ·have:=Id (c:=c) q4
    exact ⟨q1,q2,q3,this.1,this.2⟩
   ·exact ih (fun b hb=>h b (by simp [hb])) b hb
def d4 (phi:LC) (F:Int->Tm×Int) (c:Int):LB×Int:=
 if phi.length=0 then ([],c) else ([⟨phi,[(F c).1]⟩],(F c).2)
theorem agv: ∀ {l:LB},(∀b∈l,b.kids=[aF b,k1 b])->2*l.length<=aJ l:=by
 intro l
 induction l with
 |nil=>intro _;simp
 |cons x l ih=>
  intro h
  have h1:=ih fun b hb=>h b (by simp [hb])
  have h2:=h x (by simp)
  obtain ⟨f,ks⟩:=x
  have h2:ks=[aF ⟨f,ks⟩,k1 ⟨f,ks⟩]:=h2
  rw [aJ,js,er]
  have:aD ks=aG (aF ⟨f,ks⟩)+(aG (k1 ⟨f,ks⟩)+0):=by rw [h2,aD,aD,aD];rfl
  have p1:=pb (aF ⟨f,ks⟩);have p2:=pb (k1 ⟨f,ks⟩)
  omega
theorem Aq {g:Tm} (fg:Fm g) (hg:g.kind=16):g.sys.length<=10000:=by
 have h:=agv fun b hb=>((fg.gl hg).1 b hb).1
 have:=fg.siz
 cases g with
 |mk a b c d e f=>rw [aG] at this;simp only [Tm.sys] at h ⊢;omega
def GN (x:Tm):Prop:=Fm x/\x.kind=16\/x=noT
theorem GN.es (hk:F3 k) {x:Tm} (h:GN x) (J:LB->OS S):pP k x J=J (bY x):=by
 have hfu:4294968296<=k:=hk
 simp only [pP,ao hk.fu,zu,B1]
 rcases h with ⟨h1,h2⟩|rfl
 ·obtain ⟨hx,hl,_⟩:=h1.gl h2
  exact EO hk J (fun b hb=>(hx b hb).1) hl x.sys [] [] k rfl (by omega) (by simpa using hl)
 ·exact EO (l:=[]) hk J (fun b hb=>by cases hb) (by simp) [] [] [] k rfl (by simp;omega) (by simp)
theorem GN.un {x a:Tm} (h:GN x) (ha:Fm a):Sm 40002 (dC a (bY x))/\ap (dC a (bY x))<=201:=by
 have:=ha.dep;have:=ha.siz
 rcases h with ⟨h1,h2⟩|rfl
 ·obtain ⟨e1,e2,e3,e4,_,_⟩:=Ec h1 h2
  have d:=h1.dep;have z:=h1.siz
  have e5:bB x.sys+1<=ap x:=by cases x;rw [ap];simp only [Tm.sys];omega
  have e6:aJ x.sys+1<=aG x:=by cases x;rw [aG];simp only [Tm.sys];omega
  have e7:=Aq h1 h2
  have d1:ap (dC a (bY x))<=201:=by rw [ap,bj,bj];omega
  refine ⟨⟨?_, ?_,by omega⟩,d1⟩
  ·rw [OkT,aK,aK];exact ⟨⟨by unfold aI;omega,by unfold aI;omega,by decide,(fun c hc=>by cases hc),by simp,by simp,by omega⟩,⟨ha.ok,trivial⟩,e1⟩
  ·rw [aG,aD,aD];omega
 ·have d1:ap (dC a (bY noT))<=201:=by rw [ap,bj,bj];show max _ (bB [])+1<=_;rw [bB];omega
  refine ⟨⟨?_, ?_,by omega⟩,d1⟩
  ·rw [OkT,aK,aK];refine ⟨⟨by unfold aI;omega,by unfold aI;omega,by decide,(fun c hc=>by cases hc),by simp,by simp,by simp [bY,noT,Tm.sys]⟩,⟨ha.ok,trivial⟩, ?_⟩
   show bk [];rw [bk];trivial
  ·rw [aG,aD,aD];show _+aJ []<=_;rw [aJ];omega
theorem si {c:Int} {r:LC} {g:Tm} (fg:Fm g) (hg:g.kind=16) (hr:RF r) (hl:bM r 24=true):GN (mM c (bX 0 r g)).1:=by
 unfold mM
 split
 ·cases hx:bX 0 r g with
  |error e=>exact .inr rfl
  |ok y=>
   obtain ⟨h1,h2⟩:=tY fg.ok hx
   exact .inl ⟨HJ fg hr hl h2,(wZ h2).trans hg⟩
 ·exact .inr rfl
def mG (phi:LC) (a:Tm) (c:Int) (b:Br Tm):Br Tm×Int:=
 (⟨b.face,[aH 6 [aH 9 [k1 b],(mM c (g9 (aF b) phi a ⟨0,1⟩ [⟨3,0⟩])).1]]⟩,(mM c (g9 (aF b) phi a ⟨0,1⟩ [⟨3,0⟩])).2)
def kg (g:Tm):Tm:=g.kids.headD noT
structure BegR where
 st:LB
 a1:Tm
 c:Int
def mX (phi:LC) (a a0:Tm) (st:LB) (c:Int):LB×Int:=
 ((d4 phi (fun c=>mM c (cJ 0 1 a0)) c).1++(cD (mG phi a) (d4 phi (fun c=>mM c (cJ 0 1 a0)) c).2 st).1,(cD (mG phi a) (d4 phi (fun c=>mM c (cJ 0 1 a0)) c).2 st).2)
def jf (g:Tm) (phi:LC) (a a0:Tm) (st:LB) (c:Int):Tm×Int:=
 mM (mX phi a a0 st c).2 (dK [kg g,a0,cE (mX phi a a0 st c).1] (jh (kg g) a0 (mX phi a a0 st c).1))
def jz (g:Tm) (phi:LC) (a:Tm):BegR:=
 let T:=mM 0 (bX 0 [] g)
 let st:=ej T.2 g.sys
 let C:=jf g phi a (dC a (bY T.1)) st.1 st.2
 ⟨st.1,C.1,C.2⟩
section
variable {phi:LC} {x1 x2:Int} {x3:BA} {x4:LC} {x5:LT} {x6 st0:LB} {y1 y2:Int} {y3:BA} {y4:LC} {y5:LT} {y6:LB} {z1 z2:Int} {z3:BA} {z4:LC} {z5:LT} {z6:LB}
theorem afd (hk:F3 k) (fa:Fm (Tm.mk x1 x2 x3 x4 x5 x6)) (hp:RX true phi) {st:LB} (hs: ∀b∈st,iE b) (hl:st.length<=10000) (c:Int) (J:LB×Int->OS S):
  u_ k st c phi x1 x2 x3 x4 x5 x6 st0 y1 y2 y3 y4 y5 y6 z1 z2 z3 z4 z5 z6 J=J (cD (mG phi (Tm.mk x1 x2 x3 x4 x5 x6)) c st):=by
 have hfu:4294968296<=k:=hk
 simp only [u_,Hl]
 have:=Ea (S:=S) (l:=st) (L:=fun m c i acc=>sP k J phi y2 y3 y4 y5 y6 z1 z2 z3 z4 z5 x1 z6 x2 x3 x4 x5 x6 st0 y1 st m c i acc) (F:=mG phi (Tm.mk x1 x2 x3 x4 x5 x6)) (J:=J)
  (fun m c acc ha=>by
   have:=eL (l:=st) (p:=st) (by simp)
   simp only [sP,xW,this,ak])
  (fun m c x p r acc h ha=>by
   obtain ⟨e1,e2,e3,_⟩:=bL h (by omega)
   have hlen:p.length<st.length:=by rw [h];simp
   obtain ⟨q1,q2,q3,q4⟩:=hs x (by rw [h];simp)
   have g0:ar x.kids 0=some (aF x):=jI (n:=0) rfl (by rw [q1];rfl)
   have g1:ar x.kids 1=some (k1 x):=jI (n:=1) rfl (by rw [q1];rfl)
   simp only [sP,xW,e1,au,e2,bD,ao hk.fu,DL,g0,g1,aM,m_,eK,eX,e3]
   rw [afg hk (q2.isIn hk) (fa.isIn hk) (g5 hp),dm (by simp;omega)]
   rfl)
  st [] [] k c rfl (by omega) rfl
 rw [eF] at this
 exact this
theorem afh (hk:F3 k) {st:LB} {a0:Tm} (ha:In k a0) (c:Int) (J:LB×Int->OS S):
  u7 k c phi x1 x2 x3 x4 x5 x6 st y1 y2 y3 y4 y5 y6 z1 z2 z3 z4 z5 z6 a0 J=J (d4 phi (fun c=>mM c (cJ 0 1 a0)) c):=by
 simp only [u7,ao hk.fu,aM,rH,eX]
 rw [mI hk (fun _=>ha) (by omega) (by omega)]
 unfold d4
 by_cases h:phi.length=0
 ·rw [if_pos h,h,show (((0:Nat):Int)==0)=true from rfl,au]
 ·rw [if_neg h,beq_false_of_ne (by omega),ak]
theorem w_ {F:Int->Tm×Int} (hp:RX true phi) {n:Nat} (hF: ∀c,Sm n (F c).1/\ap (F c).1<=290) (c:Int):gO n (d4 phi F c).1/\(d4 phi F c).1.length<=1:=by
 unfold d4
 split
 ·exact ⟨pK n,by simp⟩
 ·exact ⟨rq (g5 hp) (hF c).1 (by have:=(hF c).2;omega) (pK n),by simp⟩
theorem aef (hk:F3 k) {a:Tm} (fa:Fm a) (hp:RX true phi) {st:LB} (hs: ∀b∈st,iE b) (c:Int):gO 400000 (cD (mG phi a) c st).1:=by
 intro y hy
 refine vv (Q:=fun y=> ∃t,y.kids=[t]/\Sm 400000 t/\ap t<=299/\av y.face/\y.face.length<1073741824) (F:=mG phi a) (l:=st) (c:=c) (fun x hx c=> ?_) y hy
 obtain ⟨q1,q2,q3,q4,q5⟩:=hs x hx
 have a9:=afJ (kd:=9) (by omega) (.inl q3)
 have qR:Q2 (mM c (g9 (aF x) phi a ⟨0,1⟩ [⟨3,0⟩])).1:=acY fun t h=>UB hk q2.ok fa.ok hp.1 L_ BI h
 have h6:=tW (kd:=6) (by omega) (n:=80001) (ks:=[aH 9 [k1 x],(mM c (g9 (aF x) phi a ⟨0,1⟩ [⟨3,0⟩])).1]) (fun x hx=>by
  simp at hx
  rcases hx with rfl|rfl
  ·exact ⟨a9.1,by have:=a9.2;omega⟩
  ·exact ⟨qR.1.mono (by omega),by have:=qR.2;omega⟩) (by simp)
 exact ⟨_,rfl,h6.1.mono (by omega),by have:=h6.2;omega,q4,q5⟩
theorem C9 (hk:F3 k) {a a0:Tm} (fa:Fm a) (o0:OkT a0) (hp:RX true phi) {st:LB} (hs: ∀b∈st,iE b) (hl:st.length<=10000) (c:Int):In k (cE (mX phi a a0 st c).1):=by
 have fU: ∀c,FN (mM c (cJ 0 1 a0)).1:=fun c=>oA fun t h=>lh (by omega) (qX o0 h).1 (qX o0 h).2
 obtain ⟨w1,w2⟩:=w_ (F:=fun c=>mM c (cJ 0 1 a0)) hp (n:=400000) (fun c=>⟨(fU c).sm.1.mono (by omega),by have:=(fU c).sm.2;omega⟩) c
 have hb:gO 400000 (mX phi a a0 st c).1:=Dg w1 (aef hk fa hp hs _)
 obtain ⟨b1,b2⟩:=yD hb
 refine ag3 hk (by omega) b1 ?_ b2
 unfold mX
 rw [List.length_append,oq];omega
theorem aev (hk:F3 k) {g a0:Tm} (fg:Fm g) (hg:g.kind=16) (fa:Fm (Tm.mk x1 x2 x3 x4 x5 x6)) (ia:In k a0) (hp:RX true phi) {st:LB} (hs: ∀b∈st,iE b) (hl:st.length<=10000) (c:Int) (J:Int×LB×Int×Int×BA×LC×LT×LB->OS S):
  (u7 k c phi x1 x2 x3 x4 x5 x6 st y1 y2 y3 y4 y5 y6 z1 z2 z3 z4 z5 z6 a0 fun r8=>u_ k st r8.2 phi x1 x2 x3 x4 x5 x6 st y1 y2 y3 y4 y5 y6 z1 z2 z3 z4 z5 z6 fun r9=>ag (bH 1099511627776 r8.1.length r9.1.length) fun x10=>ag (ar g.kids 0) fun x11=>vd k x11 a0 (r8.1++r9.1) r9.2 fun r12=>J (r12.2,st,r12.1.kind,r12.1.n,r12.1.name,r12.1.r,r12.1.kids,r12.1.sys))=
   J ((jf g phi (Tm.mk x1 x2 x3 x4 x5 x6) a0 st c).2,st,(jf g phi (Tm.mk x1 x2 x3 x4 x5 x6) a0 st c).1.kind,(jf g phi (Tm.mk x1 x2 x3 x4 x5 x6) a0 st c).1.n,(jf g phi (Tm.mk x1 x2 x3 x4 x5 x6) a0 st c).1.name,(jf g phi (Tm.mk x1 x2 x3 x4 x5 x6) a0 st c).1.r,(jf g phi (Tm.mk x1 x2 x3 x4 x5 x6) a0 st c).1.kids,(jf g phi (Tm.mk x1 x2 x3 x4 x5 x6) a0 st c).1.sys):=by
 obtain ⟨_,_,b,hb,fb⟩:=fg.gl hg
 have gb:ar g.kids 0=some b:=jI (n:=0) rfl (by rw [hb];rfl)
 have hd:kg g=b:=by unfold kg;rw [hb];rfl
 have hw:=(w_ (F:=fun c=>mM c (cJ 0 1 a0)) hp (n:=20000) (fun c=>by
  have fU:FN (mM c (cJ 0 1 a0)).1:=oA fun t h=>lh (by omega) (qX ia.1 h).1 (qX ia.1 h).2
  exact ⟨fU.sm.1,by have:=fU.sm.2;omega⟩) c).2
 rw [afh hk ia,afd hk fa hp hs hl,dm (by rw [oq];omega),gb,bD]
 have hin:=C9 hk fa ia.1 hp hs hl c
 unfold mX at hin
 rw [aeX hk (fun _=>⟨fb.isIn hk,ia,hin⟩) (fun e h=>BX (fun e h=>IF h) h)]
 unfold jf mX
 rw [hd]
theorem Z4 (hk:F3 k) {g a0:Tm} (fg:Fm g) (hg:g.kind=16) (fa:Fm (Tm.mk x1 x2 x3 x4 x5 x6)) {es:LB} (e0:Tm.mk 18 0 aw [] [Tm.mk x1 x2 x3 x4 x5 x6] es=a0) (ia:In k a0) (hp:RX true phi) (J:Int×LB×Int×Int×BA×LC×LT×LB->OS S):
  ∀ (r p st:LB) (m:Nat) (c:Int),g.sys=p++r->r.length<m->(∀b∈st,iE b)->st.length+r.length<=10000->
   sO k J phi y2 y3 y4 y5 y6 z1 z2 z3 z4 z5 x1 z6 x2 x3 x4 x5 x6 y1 g (18,0,aw,[Tm.mk x1 x2 x3 x4 x5 x6],es) m c st (p.length:Int)=
    (fun C:Tm×Int=>J (C.2,st++(ej c r).1,C.1.kind,C.1.n,C.1.name,C.1.r,C.1.kids,C.1.sys)) (jf g phi (Tm.mk x1 x2 x3 x4 x5 x6) a0 (st++(ej c r).1) (ej c r).2):=by
 obtain ⟨hx,hl,_⟩:=fg.gl hg
 intro r
 induction r with
 |nil=>
  intro p st m c h hm hs ha
  obtain ⟨m,rfl,hm'⟩:=ax hm
  simp only [sO,xV,eL h,ak,ao hk.fu,aM,ej,eN,e0]
  exact aev hk fg hg fa ia hp hs (by simpa using ha) c J
 |cons x r ih=>
  intro p st m c h hm hs ha
  obtain ⟨m,rfl,hm'⟩:=ax hm
  obtain ⟨e1,e2,e3,e4⟩:=bL h (by omega)
  rw [er] at ha
  obtain ⟨q1,q2,q3,q4⟩:=hx x (by rw [h];simp)
  simp only [sO,xV,e1,au,e2,bD,ao hk.fu,e3,eX]
  rw [aeW hk q4,ej]
  by_cases h0:(fK c x.face).1.length=0
  ·rw [if_pos h0,decide_eq_false (by omega),ak]
   exact ih (p++[x]) st m _ e4 hm' hs (by omega)
  ·rw [if_neg h0,decide_eq_true (by omega),au,dm (by simp;omega)]
   have:=Id (c:=c) q4
   have hb:iE ⟨(fK c x.face).1,x.kids⟩:=⟨q1,q2,q3,this.1,this.2⟩
   have i:=ih (p++[x]) (st++[⟨(fK c x.face).1,x.kids⟩]) m (fK c x.face).2 e4 hm' (fun b hb'=>by
    rcases eu.1 hb' with hb'|hb'
    ·exact hs b hb'
    ·rw [List.mem_singleton] at hb';rw [hb'];exact hb) (by simp;omega)
   rw [i,List.append_assoc];rfl
theorem aeu (hk:F3 k) {g:Tm} (fg:Fm g) (hg:g.kind=16) (fa:Fm (Tm.mk x1 x2 x3 x4 x5 x6)) (hp:RX true phi) (J:Int×LB×Int×Int×BA×LC×LT×LB->OS S):
  zp k g 0 phi x1 x2 x3 x4 x5 x6 y1 y2 y3 y4 y5 y6 z1 z2 z3 z4 z5 z6 J=(fun B:BegR=>J (B.c,B.st,B.a1.kind,B.a1.n,B.a1.name,B.a1.r,B.a1.kids,B.a1.sys)) (jz g phi (Tm.mk x1 x2 x3 x4 x5 x6)):=by
 have hfu:4294968296<=k:=hk
 simp only [zp,Hk,ao hk.fu,aM]
 rw [Pi hk (fun _=>fg.isIn hk) ad1]
 have gT:GN (mM 0 (bX 0 [] g)).1:=si fg hg jq (qx (by decide))
 rw [gT.es hk]
 simp only [na,ao hk.fu,h_,aM]
 have hu:=gT.un fa
 have ia:=hu.1.isIn hk (by omega)
 have hlen:=Aq fg hg
 refine (Z4 hk fg hg fa rfl ia hp J g.sys [] [] k _ rfl (by omega) (fun b hb=>by cases hb) (by simpa using hlen)).trans ?_
 rw [eF];rfl
end
def FA (w z:Tm):Tm:=aH 8 [w,aH 12 [z]]
def AU (u w z:Tm):Tm:=tu [⟨1,0⟩] (aH 6 [aH 10 [u],FA w z]) (aH 9 [u]) (FA w z)
def ij (a1 cen x:Tm) (c:Int):Tm×Int:=
 let u:=mM c (cJ 0 1 cen)
 let w:=mM u.2 (cJ 0 1 x)
 let z:=mM w.2 (cJ 0 2 a1)
 (AU u.1 w.1 z.1,z.2)
def hX (e a1:Tm):Tm:=aH 6 [aH 10 [e],a1]
def mo (phi:LC) (a a1 cen:Tm) (c:Int) (b:Br Tm):Br Tm×Int:=
 (⟨b.face,[(ij a1 cen (jv phi (aF b) a) c).1]⟩,(ij a1 cen (jv phi (aF b) a) c).2)
def vB (phi:LC) (a a1 cen:Tm) (st:LB) (c:Int):LB×Int:=
 ((d4 phi (ij a1 cen a) c).1++(cD (mo phi a a1 cen) (d4 phi (ij a1 cen a) c).2 st).1,(cD (mo phi a a1 cen) (d4 phi (ij a1 cen a) c).2 st).2)
def p6 (phi:LC) (a a1 t1:Tm) (st:LB) (t e:Tm) (c:Int):Tm×Int:=
 let f:=mM c (dK [t,t1,aH 9 [e],a1] (gJ t t1 (aH 9 [e]) a1))
 let s:=vB phi a a1 (hX e a1) st f.2
 (.mk 15 0 aw [] [f.1,aH 9 [hX e a1]] s.1,s.2)
theorem BV {kd:Int} (hkd:0<=kd/\kd<=28) {n m d:Nat} {x y:Tm} (hx:Sm n x/\ap x<=d) (hy:Sm m y/\ap y<=d) (hd:d<=290):Sm (n+m+1) (aH kd [x,y])/\ap (aH kd [x,y])<=d+1:=by
 unfold aH
 refine ⟨(l6 (kd:=kd) hkd (r:=[]) ⟨(fun c hc=>by cases hc),by simp⟩ (ks:=[x,y]) (sys:=[]) (n:=n+m) (m:=0) (fun z hz=>by
  simp at hz
  rcases hz with rfl|rfl
  ·exact ⟨hx.1.ok,by have:=hx.2;omega⟩
  ·exact ⟨hy.1.ok,by have:=hy.2;omega⟩) (by simp) (by rw [aD,aD,aD];have:=hx.1.siz;have:=hy.1.siz;omega) (by rw [bk];trivial) (by simp) (by rw [bB];omega) (by rw [aJ];omega)).mono (by omega), ?_⟩
 rw [ap,bj,bj,bj,bB];have:=hx.2;have:=hy.2;omega
theorem l7 {kd:Int} (hkd:0<=kd/\kd<=28) {n d:Nat} {x:Tm} (hx:Sm n x/\ap x<=d) (hd:d<=290):Sm (n+1) (aH kd [x])/\ap (aH kd [x])<=d+1:=by
 unfold aH
 refine ⟨(l6 (kd:=kd) hkd (r:=[]) ⟨(fun c hc=>by cases hc),by simp⟩ (ks:=[x]) (sys:=[]) (n:=n) (m:=0) (fun z hz=>by
  simp at hz;subst hz
  exact ⟨hx.1.ok,by have:=hx.2;omega⟩) (by simp) (by rw [aD,aD];have:=hx.1.siz;omega) (by rw [bk];trivial) (by simp) (by rw [bB];omega) (by rw [aJ];omega)).mono (by omega), ?_⟩
 rw [ap,bj,bj,bB];have:=hx.2;omega
theorem Py {r:LC} (hr:av r/\r.length<1073741824) {n m j d:Nat} {x y z:Tm} (hx:Sm n x/\ap x<=d) (hy:Sm m y/\ap y<=d) (hz:Sm j z/\ap z<=d) (hd:d<=290):Sm (n+m+j+1) (tu r x y z)/\ap (tu r x y z)<=d+1:=by
 refine ⟨(l6 (kd:=13) (by omega) hr (ks:=[x,y,z]) (sys:=[]) (n:=n+m+j) (m:=0) (fun w hw=>by
  simp at hw
  rcases hw with rfl|rfl|rfl
  ·exact ⟨hx.1.ok,by have:=hx.2;omega⟩
  ·exact ⟨hy.1.ok,by have:=hy.2;omega⟩
  ·exact ⟨hz.1.ok,by have:=hz.2;omega⟩) (by simp) (by rw [aD,aD,aD,aD];have:=hx.1.siz;have:=hy.1.siz;have:=hz.1.siz;omega) (by rw [bk];trivial) (by simp) (by rw [bB];omega) (by rw [aJ];omega)).mono (by omega), ?_⟩
 rw [ap,bj,bj,bj,bj,bB];have:=hx.2;have:=hy.2;have:=hz.2;omega
theorem oB {c a b:Int} (ha:0<=a/\a<=1000) (hb:0<=b/\b<=1000) {t:Tm} (ot:OkT t):FN (mM c (cJ a b t)).1:=oA fun t h=>lh (by omega) (qX ot h).1 (qX ot h).2
theorem acE {u w z:Tm} (hu:FN u) (hw:FN w) (hz:FN z):Sm 200000 (AU u w z)/\ap (AU u w z)<=210:=by
 have h12:=l7 (kd:=12) (by omega) hz.sm (by omega)
 have h8:=BV (kd:=8) (by omega) (d:=201) ⟨hw.sm.1,by have:=hw.sm.2;omega⟩ h12 (by omega)
 have h10:=l7 (kd:=10) (by omega) hu.sm (by omega)
 have h9:=l7 (kd:=9) (by omega) hu.sm (by omega)
 have h6:=BV (kd:=6) (by omega) (d:=202) ⟨h10.1,by have:=h10.2;omega⟩ ⟨h8.1,by have:=h8.2;omega⟩ (by omega)
 have:=Py (Ma (a:=1) (b:=0) (by omega) (by omega)) (d:=203) ⟨h6.1,by have:=h6.2;omega⟩ ⟨h9.1,by have:=h9.2;omega⟩ ⟨h8.1,by have:=h8.2;omega⟩ (by omega)
 exact ⟨this.1.mono (by omega),by have:=this.2;unfold AU FA;omega⟩
theorem Mg {a1 cen x:Tm} {c:Int} (h1:OkT a1) (h2:OkT cen) (h3:OkT x):Sm 200000 (ij a1 cen x c).1/\ap (ij a1 cen x c).1<=210:=
 acE (oB (by omega) (by omega) h2) (oB (by omega) (by omega) h3) (oB (by omega) (by omega) h1)
theorem yI {e a1:Tm} (he:FN e) (h1:FN a1):Sm 40002 (hX e a1)/\ap (hX e a1)<=202:=by
 have h10:=l7 (kd:=10) (by omega) he.sm (by omega)
 have:=BV (kd:=6) (by omega) (d:=201) ⟨h10.1,by have:=h10.2;omega⟩ ⟨h1.sm.1,by have:=h1.sm.2;omega⟩ (by omega)
 exact ⟨this.1.mono (by omega),by have:=this.2;unfold hX;omega⟩
section
variable {phi:LC} {x1 x2:Int} {x3:BA} {x4:LC} {x5:LT} {x6 st0:LB} {y1 y2:Int} {y3:BA} {y4:LC} {y5:LT} {y6:LB} {z1 z2:Int} {z3:BA} {z4:LC} {z5:LT} {z6:LB}
theorem Pk (hk:F3 k) {x cen:Tm} (i1:In k (Tm.mk y1 y2 y3 y4 y5 y6)) (i2:In k cen) (i3:In k x) (c:Int) (J:Int×Int×BA×LC×LT×Int->OS S):
  ∃ks,u6 k x cen c phi x1 x2 x3 x4 x5 x6 st0 y1 y2 y3 y4 y5 y6 z1 z2 z3 z4 z5 z6 J=J (13,0,aw,[⟨1,0⟩],ks,(ij (Tm.mk y1 y2 y3 y4 y5 y6) cen x c).2)/\Tm.mk 13 0 aw [⟨1,0⟩] ks []=(ij (Tm.mk y1 y2 y3 y4 y5 y6) cen x c).1:=by
 refine ⟨_, ?_,rfl⟩
 simp only [u6,ao hk.fu,aM,eK,pS]
 rw [mI hk (fun _=>i2) (by omega) (by omega),mI hk (fun _=>i3) (by omega) (by omega),mI hk (fun _=>i1) (by omega) (by omega)]
 rfl
theorem afi (hk:F3 k) {cen:Tm} (i1:In k (Tm.mk y1 y2 y3 y4 y5 y6)) (i2:In k cen) (i3:In k (Tm.mk x1 x2 x3 x4 x5 x6)) (c:Int) (J:LB×Int->OS S):
  zt k c phi x1 x2 x3 x4 x5 x6 st0 y1 y2 y3 y4 y5 y6 z1 z2 z3 z4 z5 z6 cen J=J (d4 phi (ij (Tm.mk y1 y2 y3 y4 y5 y6) cen (Tm.mk x1 x2 x3 x4 x5 x6)) c):=by
 simp only [zt,ao hk.fu,aM,rI,eX]
 obtain ⟨ks,h1,h2⟩:=Pk (phi:=phi) (x1:=x1) (x2:=x2) (x3:=x3) (x4:=x4) (x5:=x5) (x6:=x6) (st0:=st0) (z1:=z1) (z2:=z2) (z3:=z3) (z4:=z4) (z5:=z5) (z6:=z6) hk i1 i2 i3 c (fun r1=>J ([⟨phi,[Tm.mk r1.1 r1.2.1 r1.2.2.1 r1.2.2.2.1 r1.2.2.2.2.1 []]⟩],r1.2.2.2.2.2))
 rw [h1]
 dsimp only
 rw [h2]
 unfold d4
 by_cases h:phi.length=0
 ·rw [if_pos h,h,show (((0:Nat):Int)==0)=true from rfl,au]
 ·rw [if_neg h,beq_false_of_ne (by omega),ak]
theorem aeN (hk:F3 k) {cen:Tm} (i1:In k (Tm.mk y1 y2 y3 y4 y5 y6)) (i2:In k cen) (fa:Fm (Tm.mk x1 x2 x3 x4 x5 x6)) (hp:RX true phi) {st:LB} (hs: ∀b∈st,iE b) (hl:st.length<=10000) (c:Int) (J:LB×Int->OS S):
  zw k st cen c phi x1 x2 x3 x4 x5 x6 st0 y1 y2 y3 y4 y5 y6 z1 z2 z3 z4 z5 z6 J=J (cD (mo phi (Tm.mk x1 x2 x3 x4 x5 x6) (Tm.mk y1 y2 y3 y4 y5 y6) cen) c st):=by
 have hfu:4294968296<=k:=hk
 simp only [zw,Ho]
 have:=Ea (S:=S) (l:=st) (L:=fun m c i acc=>qc k J cen phi y2 y3 y4 y5 y6 z1 z2 z3 z4 z5 x1 z6 x2 x3 x4 x5 x6 st0 y1 st m c i acc) (F:=mo phi (Tm.mk x1 x2 x3 x4 x5 x6) (Tm.mk y1 y2 y3 y4 y5 y6) cen) (J:=J)
  (fun m c acc ha=>by
   have:=eL (l:=st) (p:=st) (by simp)
   simp only [qc,yb,this,ak])
  (fun m c x p r acc h ha=>by
   obtain ⟨e1,e2,e3,_⟩:=bL h (by omega)
   have hlen:p.length<st.length:=by rw [h];simp
   obtain ⟨q1,q2,q3,q4⟩:=hs x (by rw [h];simp)
   have g0:ar x.kids 0=some (aF x):=jI (n:=0) rfl (by rw [q1];rfl)
   have h14:=(tV (g5 hp) q2.sm fa.sm (by have:=q2.dep;omega) (by have:=fa.dep;omega)).isIn hk (by omega)
   simp only [qc,yb,e1,au,e2,bD,ao hk.fu,DM,g0,aM,pS,eX,e3]
   obtain ⟨ks,h1,h2⟩:=Pk (phi:=phi) (x1:=x1) (x2:=x2) (x3:=x3) (x4:=x4) (x5:=x5) (x6:=x6) (st0:=st0) (z1:=z1) (z2:=z2) (z3:=z3) (z4:=z4) (z5:=z5) (z6:=z6) hk i1 i2 h14 c (fun r3=>ag (bH 1099511627776 acc.length [(⟨x.face,[Tm.mk r3.1 r3.2.1 r3.2.2.1 r3.2.2.2.1 r3.2.2.2.2.1 []]⟩:Br Tm)].length) fun ahA=>qc k J cen phi y2 y3 y4 y5 y6 z1 z2 z3 z4 z5 x1 z6 x2 x3 x4 x5 x6 st0 y1 st m r3.2.2.2.2.2 (((p++[x]).length:Nat):Int) (acc++[⟨x.face,[Tm.mk r3.1 r3.2.1 r3.2.2.1 r3.2.2.2.1 r3.2.2.2.2.1 []]⟩]))
   refine aq ?_ (h1.trans ?_)
   ·rfl
   dsimp only
   rw [dm (by simp;omega),h2]
   rfl)
  st [] [] k c rfl (by omega) rfl
 rw [eF] at this
 exact this
end
theorem Jw {a a1 cen:Tm} (fa:Fm a) (h1:OkT a1) (h2:OkT cen) {phi:LC} (hp:RX true phi) {st:LB} (hs: ∀b∈st,iE b) (c:Int):gO 200000 (vB phi a a1 cen st c).1/\(vB phi a a1 cen st c).1.length<=st.length+1:=by
 obtain ⟨w1,w2⟩:=w_ (F:=ij a1 cen a) hp (n:=200000) (fun c=>by
  have:=Mg (c:=c) h1 h2 fa.ok
  exact ⟨this.1,by have:=this.2;omega⟩) c
 refine ⟨Dg w1 ?_, ?_⟩
 ·intro y hy
  refine vv (Q:=fun y=> ∃t,y.kids=[t]/\Sm 200000 t/\ap t<=299/\av y.face/\y.face.length<1073741824) (F:=mo phi a a1 cen) (l:=st) (c:=(d4 phi (ij a1 cen a) c).2) (fun x hx c=> ?_) y hy
  obtain ⟨q1,q2,q3,q4,q5⟩:=hs x hx
  have h14:=(tV (g5 hp) q2.sm fa.sm (by have:=q2.dep;omega) (by have:=fa.dep;omega)).ok
  have:=Mg (c:=c) h1 h2 h14
  exact ⟨_,rfl,this.1,by have:=this.2;omega,q4,q5⟩
 ·unfold vB
  rw [List.length_append,oq];omega
theorem Yt (hk:F3 k) {phi:LC} {a a1 t1 t e:Tm} {st:LB} {c:Int} (fa:Fm a) (f1:FN a1) (ft1:FN t1) (ft:Fm t) (fe:Fm e) (hp:RX true phi) (hs: ∀b∈st,iE b) (hl:st.length<=10000):
  FN (mM c (dK [t,t1,aH 9 [e],a1] (gJ t t1 (aH 9 [e]) a1))).1->Sm 50000000000 (p6 phi a a1 t1 st t e c).1/\ap (p6 phi a a1 t1 st t e c).1<=300:=by
 intro hf
 have hc:=yI (.inl fe) f1
 have h9:=l7 (kd:=9) (by omega) hc (by omega)
 obtain ⟨b1,b2⟩:=Jw (st:=st) (cen:=hX e a1) fa f1.sm.1.ok hc.1.ok hp hs (mM c (dK [t,t1,aH 9 [e],a1] (gJ t t1 (aH 9 [e]) a1))).2
 have:=afK (n:=50000) (m:=200000) (hf.sm.1.mono (by omega)) (h9.1.mono (by omega)) (by have:=hf.sm.2;omega) (by have:=h9.2;omega) (by omega) b1 (by omega) (by omega)
 exact ⟨this,this.dep⟩
section
variable {phi:LC} {x1 x2:Int} {x3:BA} {x4:LC} {x5:LT} {x6 st0:LB} {y1 y2:Int} {y3:BA} {y4:LC} {y5:LT} {y6:LB} {z1 z2:Int} {z3:BA} {z4:LC} {z5:LT} {z6:LB}
theorem ae1 (hk:F3 k) {t a f y:Tm} {c:Int} (ht:In k t) (ha:In k a) (hf:In k f) (hy:In k y) (J:Tm×Int->OS S):zG k t a f y c J=J (mM c (dK [t,a,f,y] (gJ t a f y))):=by
 simp only [zG,ao hk.fu,fE,aM,nP]
 exact tn c (fun h g=>ael hk ht ha hf hy g) (fun e h=>BX (fun e h=>Ef h) h) J
theorem aeL (hk:F3 k) {t e:Tm} (ft:Fm t) (fe:Fm e) (fa:Fm (Tm.mk x1 x2 x3 x4 x5 x6)) (f1:FN (Tm.mk y1 y2 y3 y4 y5 y6)) (ft1:FN (Tm.mk z1 z2 z3 z4 z5 z6)) (hp:RX true phi) {st:LB} (hs: ∀b∈st,iE b) (hl:st.length<=10000) (c:Int) (J:Int×Int×BA×LT×LB×Int->OS S):
  zr k t e c phi x1 x2 x3 x4 x5 x6 st y1 y2 y3 y4 y5 y6 z1 z2 z3 z4 z5 z6 J=(fun F:Tm×Int=>J (15,0,aw,F.1.kids,F.1.sys,F.2)) (p6 phi (Tm.mk x1 x2 x3 x4 x5 x6) (Tm.mk y1 y2 y3 y4 y5 y6) (Tm.mk z1 z2 z3 z4 z5 z6) st t e c):=by
 have i1:=f1.sm.1.isIn hk (by omega)
 have i2:=(yI (.inl fe) f1).1.isIn hk (by omega)
 have i9:=(l7 (kd:=9) (by omega) (FN.sm (.inl fe)) (by omega)).1.isIn hk (by omega)
 simp only [zr,ao hk.fu,aM,eK,m_,h_]
 have e9:Tm.mk 9 0 aw [] [e] []=aH 9 [e]:=rfl
 have ec:Tm.mk 6 0 aw [] [Tm.mk 10 0 aw [] [e] [],Tm.mk y1 y2 y3 y4 y5 y6] []=hX e (Tm.mk y1 y2 y3 y4 y5 y6):=rfl
 rw [e9,ec,ae1 hk (ft.isIn hk) (ft1.sm.1.isIn hk (by omega)) i9 i1,afi hk i1 i2 (fa.isIn hk),aeN hk i1 i2 fa hp hs hl]
 have hb:=(Jw (st:=st) (cen:=hX e (Tm.mk y1 y2 y3 y4 y5 y6)) (a1:=Tm.mk y1 y2 y3 y4 y5 y6) fa f1.sm.1.ok (yI (.inl fe) f1).1.ok hp hs (mM c (dK [t,Tm.mk z1 z2 z3 z4 z5 z6,aH 9 [e],Tm.mk y1 y2 y3 y4 y5 y6] (gJ t (Tm.mk z1 z2 z3 z4 z5 z6) (aH 9 [e]) (Tm.mk y1 y2 y3 y4 y5 y6)))).2).2
 unfold vB at hb
 rw [List.length_append] at hb
 rw [dm (by omega)]
 rfl
end
theorem aeZ (hk:F3 k) {t:Tm} {c:Int} (ot:OkT t) (hd:ap t<=400) (J:Tm×Bool×Int×Int->OS S):mi k t c J=J ((dM c t).1,(dM c t).2==0,(dM c t).2,(dM c t).2):=by
 have h2:Fd k (ap t):=hk.fd (by omega)
 simp only [mi,ao hk.fu,fE,aM,nP,lY ot h2 (by omega)]
 have:OkT (dM c t).1/\Fd k (ap (dM c t).1):=by
  unfold dM
  split
  ·split
   ·exact ⟨ot,h2⟩
   ·exact ⟨(mz hk).1,(mz hk).2.1⟩
  ·exact ⟨(mz hk).1,(mz hk).2.1⟩
 exact oY (dM c t).1 this.1 _ this.2
def gN (phi:LC) (a a1 t1:Tm) (st:LB) (c:Int) (b:Br Tm):Tm×Int:=p6 phi a a1 t1 st (aF b) (k1 b) c
def iv (a1:Tm) (c:Int) (q:Br Tm×Tm):Br Tm×Int:=
 let x:=mM c (cJ 0 1 q.2)
 let lo:=mM x.2 (cJ 0 1 a1)
 let e:=mM lo.2 (cJ 0 1 (k1 q.1))
 (⟨q.1.face,[tu [⟨1,0⟩] (aH 10 [x.1]) lo.1 (aH 6 [aH 9 [e.1],aH 9 [x.1]])]⟩,e.2)
def qG (q:Br Tm×Tm):Br Tm:=⟨q.1.face,[aH 9 [q.2]]⟩
def eQ (l:LT):Tm:=match l with
 |[x]=>x
 |_=>noT
theorem XY (hk:F3 k) {t a f y:Tm} (ht:In k t) (ha:In k a) (hf:In k f) (hy:In k y) (c:Int):FN (mM c (dK [t,a,f,y] (gJ t a f y))).1:=oA fun z h=>by
 obtain ⟨so,ff,hx⟩:=qV h
 have:=pc (l:=[t,a,f,y]) (fun x hx=>by
  simp at hx
  rcases hx with rfl|rfl|rfl|rfl
  ·exact ht.1
  ·exact ha.1
  ·exact hf.1
  ·exact hy.1) so
 exact ⟨((Jv (by omega) (by omega) (this t (by simp)).f2 (this a (by simp)).f2 (this f (by simp)).f2 (this y (by simp)).f2 hx).isIn hk (by omega) (by omega)).1,ff⟩
section
variable {phi:LC} {x1 x2:Int} {x3:BA} {x4:LC} {x5:LT} {x6 st:LB} {y1 y2:Int} {y3:BA} {y4:LC} {y5:LT} {y6:LB} {z1 z2:Int} {z3:BA} {z4:LC} {z5:LT} {z6:LB}
def GB (l:LB):Prop:= ∀b∈l,b.kids=[aF b,k1 b]/\Fm (aF b)/\Fm (k1 b)/\RX true b.face
theorem H4 (hk:F3 k) {a a1 t1:Tm} (fa:Fm a) (f1:FN a1) (ft1:FN t1) (hp:RX true phi) (hs: ∀b∈st,iE b) (hl:st.length<=10000) {l:LB} (hg:GB l) {c:Int}: ∀w∈(cD (gN phi a a1 t1 st) c l).1,Sm 50000000000 w/\ap w<=300:=
 vv fun b hb c=>by
  obtain ⟨q1,q2,q3,q4⟩:=hg b hb
  exact Yt hk fa f1 ft1 q2 q3 hp hs hl (XY hk (q2.isIn hk) (ft1.sm.1.isIn hk (by omega)) ((l7 (kd:=9) (by omega) (FN.sm (.inl q3)) (by omega)).1.isIn hk (by omega)) (f1.sm.1.isIn hk (by omega)) _)
theorem afl (hk:F3 k) (fa:Fm (Tm.mk x1 x2 x3 x4 x5 x6)) (f1:FN (Tm.mk y1 y2 y3 y4 y5 y6)) (ft1:FN (Tm.mk z1 z2 z3 z4 z5 z6)) (hp:RX true phi) (hs: ∀b∈st,iE b) (hl:st.length<=10000) {l:LB} (hg:GB l) (hgl:l.length<=10000) (c:Int) (J:LT×Int->OS S):
  rK k l c phi x1 x2 x3 x4 x5 x6 st y1 y2 y3 y4 y5 y6 z1 z2 z3 z4 z5 z6 J=J (cD (gN phi (Tm.mk x1 x2 x3 x4 x5 x6) (Tm.mk y1 y2 y3 y4 y5 y6) (Tm.mk z1 z2 z3 z4 z5 z6) st) c l):=by
 have hfu:4294968296<=k:=hk
 simp only [rK,Hn]
 have:=Ea (S:=S) (l:=l) (L:=fun m c i acc=>sU k J phi y2 y3 y4 y5 y6 z1 z2 z3 z4 z5 x1 z6 x2 x3 x4 x5 x6 st y1 l m c i acc) (F:=gN phi (Tm.mk x1 x2 x3 x4 x5 x6) (Tm.mk y1 y2 y3 y4 y5 y6) (Tm.mk z1 z2 z3 z4 z5 z6) st) (J:=J)
  (fun m c acc ha=>by
   have:=eL (l:=l) (p:=l) (by simp)
   simp only [sU,x_,this,ak])
  (fun m c x p r acc h ha=>by
   obtain ⟨e1,e2,e3,_⟩:=bL h (by omega)
   have hlen:p.length<l.length:=by rw [h];simp
   obtain ⟨q1,q2,q3,q4⟩:=hg x (by rw [h];simp)
   have g0:ar x.kids 0=some (aF x):=jI (n:=0) rfl (by rw [q1];rfl)
   have g1:ar x.kids 1=some (k1 x):=jI (n:=1) rfl (by rw [q1];rfl)
   simp only [sU,x_,e1,au,e2,bD,ao hk.fu,DJ,g0,g1,aM,e3]
   rw [aeL hk q2 q3 fa f1 ft1 hp hs hl]
   dsimp only
   rw [dm (by simp;omega)]
   rfl)
  l [] [] k c rfl (by omega) rfl
 rw [eF] at this
 exact this
theorem afj (hk:F3 k) (i1:In k (Tm.mk y1 y2 y3 y4 y5 y6)) (c:Int) (J:LB×Int->OS S):
  rJ k c phi x1 x2 x3 x4 x5 x6 st y1 y2 y3 y4 y5 y6 z1 z2 z3 z4 z5 z6 J=J (d4 phi (fun c=>mM c (cJ 0 1 (Tm.mk y1 y2 y3 y4 y5 y6))) c):=by
 simp only [rJ,ao hk.fu,aM,rG,eX]
 rw [mI hk (fun _=>i1) (by omega) (by omega)]
 unfold d4
 by_cases h:phi.length=0
 ·rw [if_pos h,h,show (((0:Nat):Int)==0)=true from rfl,au]
 ·rw [if_neg h,beq_false_of_ne (by omega),ak]
end
def d7 (phi:LC) (g a:Tm):Tm×Int:=
 let B:=jz g phi a
 let G:=mM B.c (bX 0 [⟨0,0⟩] g)
 let t1:=eQ G.1.kids
 let ws:=cD (gN phi a B.a1 t1 B.st) G.2 G.1.sys
 let W:=d4 phi (fun c=>mM c (cJ 0 1 B.a1)) ws.2
 let Z:=cD (iv B.a1) W.2 (G.1.sys.zip ws.1)
 (.mk 17 0 aw [] [.mk 15 0 aw [] [t1,B.a1] (W.1++Z.1)] ((G.1.sys.zip ws.1).map qG),Z.2)
def Ao (t:Tm):Tm×Bool×Int:=
 if dl t≠0 then (noT,false,dl t) else
 if t.kind=14/\(t.kids.getD 0 noT).kind=16 then
  (fun q:Tm×Int=>((dM q.2 q.1).1,(dM q.2 q.1).2==0,(dM q.2 q.1).2)) (d7 t.r (t.kids.getD 0 noT) (t.kids.getD 1 noT))
 else (noT,false,0)
theorem yx (hk:F3 k) {g a:Tm} {phi:LC} (fg:Fm g) (hg:g.kind=16) (fa:Fm a) (hp:RX true phi):FN (jz g phi a).a1/\(∀b∈(jz g phi a).st,iE b)/\(jz g phi a).st.length<=10000:=by
 obtain ⟨hx,_,b,hb,fb⟩:=fg.gl hg
 have hlen:=Aq fg hg
 have gT:GN (mM 0 (bX 0 [] g)).1:=si fg hg jq (qx (by decide))
 have hs:=af4 (l:=g.sys) (c:=(mM 0 (bX 0 [] g)).2) hx
 have hl:=af3 (l:=g.sys) (c:=(mM 0 (bX 0 [] g)).2)
 have hd:kg g=b:=by unfold kg;rw [hb];rfl
 have ia:=(gT.un fa).1.isIn hk (by omega)
 refine ⟨?_,hs,fC hl hlen⟩
 show FN (jf g phi a _ _ _).1
 unfold jf
 rw [hd]
 exact X_ hk (fb.isIn hk) ia (C9 hk fa ia.1 hp hs (fC hl hlen) _) _
theorem Ar {x:Tm} (h:GN x):FN (eQ x.kids)/\GB x.sys/\x.sys.length<=10000/\(x.kids.length=1/\x.kids=[eQ x.kids]\/x.kids.length=0/\eQ x.kids=noT):=by
 rcases h with ⟨h1,h2⟩|rfl
 ·obtain ⟨hx,_,b,hb,fb⟩:=h1.gl h2
  rw [hb]
  exact ⟨.inl fb,hx,Aq h1 h2,.inl ⟨rfl,rfl⟩⟩
 ·exact ⟨.inr rfl,(fun b hb=>by cases hb),by simp [noT,Tm.sys],.inr ⟨rfl,rfl⟩⟩
section
variable {z1 z2:Int} {z3:BA} {z4:LC} {z5:LT} {z6:LB}
theorem aav (hk:F3 k) (J:Tm×Bool×Int->OS S) {r3 x4:Tm} {r6:Int×LB×Int×Int×BA×LC×LT×LB} {r8:Tm×Int} {a1:Tm} (e1:Tm.mk r6.2.2.1 r6.2.2.2.1 r6.2.2.2.2.1 r6.2.2.2.2.2.1 r6.2.2.2.2.2.2.1 r6.2.2.2.2.2.2.2=a1) (o1:OkT a1) (i1:In k a1) (hg:GB r8.1.sys) (hgl:r8.1.sys.length<=10000) {ws:LT} (hw: ∀w∈ws,In k w) (hwl:ws.length=r8.1.sys.length) {END:LB->LB->Int->OS S}
  (hend: ∀ (m:Nat) (c:Int) (pa sy:LB),oL k J r3 r6 x4 r8 (m+1) c z1 z2 z3 z4 z5 z6 pa (r8.1.sys.length:Int) ws sy=END pa sy c):
  ∀ (r p:LB) (rw pw:LT) (pa sy:LB) (m:Nat) (c:Int),r8.1.sys=p++r->ws=pw++rw->pw.length=p.length->r.length<m->pa.length=p.length->sy.length<=p.length+1->
   oL k J r3 r6 x4 r8 m c z1 z2 z3 z4 z5 z6 pa (p.length:Int) ws sy=END (pa++(r.zip rw).map qG) (sy++(cD (iv a1) c (r.zip rw)).1) (cD (iv a1) c (r.zip rw)).2:=by
 intro r
 induction r with
 |nil=>
  intro p rw' pw pa sy m c h h' hpw hm hpa hsy
  obtain ⟨m,rfl,hm'⟩:=ax hm
  rw [eN] at h
  rw [show (p.length:Int)=(r8.1.sys.length:Int) by rw [h],hend,List.zip_nil_left,List.map_nil,eN,cD,eN]
 |cons x r ih=>
  intro p rw' pw pa sy m c h h' hpw hm hpa hsy
  obtain ⟨m,rfl,hm'⟩:=ax hm
  obtain ⟨e1',e2,e3,e4⟩:=bL h (by omega)
  have hlen:p.length<r8.1.sys.length:=by rw [h];simp
  cases rw' with
  |nil=>rw [eN] at h';rw [h'] at hwl;omega
  |cons w rw'=>
  have gw:ar ws (p.length:Int)=some w:=by
   rw [h',<-hpw]
   exact jI (n:=pw.length) rfl (by simp)
  obtain ⟨q1,q2,q3,q4⟩:=hg x (by rw [h];simp)
  have g1:ar x.kids 1=some (k1 x):=jI (n:=1) rfl (by rw [q1];rfl)
  have iw:=hw w (by rw [h'];simp)
  simp only [oL,xU,e1',au,e2,bD,gw,ao hk.fu,aM,e1,g1,m_,eK,pS,eX,e3]
  rw [mI hk (fun _=>iw) (by omega) (by omega),mI hk (fun _=>i1) (by omega) (by omega),mI hk (fun _=>q3.isIn hk) (by omega) (by omega),dm (by simp;omega),dm (by simp;omega)]
  refine aq (ih (p++[x]) rw' (pw++[w]) _ _ m _ e4 (by rw [h',List.append_assoc];rfl) (by simp [hpw]) hm' (by simp [hpa]) (by simp;omega)) ?_
  rw [List.zip_cons_cons,iG,cD,List.append_assoc,List.append_assoc]
  rfl
end
theorem B0 {n:Nat}: ∀ {l:LB},(∀x∈l,∃t,x.kids=[t]/\OkT t/\ap t<=n/\av x.face/\x.face.length<1073741824)->bk l/\bB l<=n+2:=by
 intro l
 induction l with
 |nil=>intro _;exact ⟨by rw [bk];trivial,by rw [bB];omega⟩
 |cons x l ih=>
  intro h
  obtain ⟨h1,h2⟩:=ih fun y hy=>h y (by simp [hy])
  obtain ⟨t,q1,q2,q3,q4,q5⟩:=h x (by simp)
  obtain ⟨f,ks⟩:=x
  have q1:ks=[t]:=q1
  subst q1
  refine ⟨by rw [bk,g7,aK,aK];exact ⟨⟨⟨q4,q5,by simp⟩,q2,trivial⟩,h1⟩, ?_⟩
  rw [bB,lx,bj,bj];omega
theorem Jz {a1:Tm} (o1:OkT a1) {q:Br Tm×Tm} (ow:OkT q.2) (oe:OkT (k1 q.1)) (hf:av q.1.face/\q.1.face.length<1073741824) (c:Int):
  ∃t,(iv a1 c q).1.kids=[t]/\OkT t/\ap t<=299/\av (iv a1 c q).1.face/\(iv a1 c q).1.face.length<1073741824:=by
 have fx:=oB (c:=c) (a:=0) (b:=1) (by omega) (by omega) ow
 have fl:=oB (c:=(mM c (cJ 0 1 q.2)).2) (a:=0) (b:=1) (by omega) (by omega) o1
 have fe:=oB (c:=(mM (mM c (cJ 0 1 q.2)).2 (cJ 0 1 a1)).2) (a:=0) (b:=1) (by omega) (by omega) oe
 have h10:=l7 (kd:=10) (by omega) fx.sm (by omega)
 have h9:=l7 (kd:=9) (by omega) fx.sm (by omega)
 have h9':=l7 (kd:=9) (by omega) fe.sm (by omega)
 have h6:=BV (kd:=6) (by omega) (d:=201) h9' h9 (by omega)
 have:=Py (Ma (a:=1) (b:=0) (by omega) (by omega)) (d:=202) ⟨h10.1,by have:=h10.2;omega⟩ ⟨fl.sm.1,by have:=fl.sm.2;omega⟩ ⟨h6.1,by have:=h6.2;omega⟩ (by omega)
 exact ⟨_,rfl,this.1.ok,by have:=this.2;omega,hf.1,hf.2⟩
theorem pj (a b:Int) (c:BA) (d:LC) (e:LT) (f:LB):(Tm.mk a b c d e f).kind=a/\(Tm.mk a b c d e f).n=b/\(Tm.mk a b c d e f).name=c/\(Tm.mk a b c d e f).r=d/\(Tm.mk a b c d e f).kids=e/\(Tm.mk a b c d e f).sys=f:=⟨rfl,rfl,rfl,rfl,rfl,rfl⟩
theorem aeO (hk:F3 k) {t:Tm} (ht:In k t) (J:Tm×Bool×Int->OS S):u4 k t J=J (Ao t):=by
 have hfu:4294968296<=k:=hk
 simp only [u4,Hj,ao hk.fu,aM,lY ht.1 ht.2.1 ht.dep]
 unfold Ao
 by_cases h0:dl t=0
 case neg=>rw [mb h0,ef,au,if_pos h0];rfl
 rw [h0,show (!((0:Int)==0))=false from rfl,ak,if_neg (by simp)]
 have ft:Fm t:=⟨ht.1,h0⟩
 by_cases h14:t.kind=14
 case neg=>rw [beq_false_of_ne h14,ef,au,if_neg (fun h=>h14 h.1)];rfl
 rw [h14,show (!((14:Int)==14))=false from rfl,ak]
 obtain ⟨g,a,hkd⟩:=t6 (sn ft h14 (n:=2) rfl)
 obtain ⟨g0,g1⟩:=Ap hkd
 obtain ⟨d0,d1⟩:=r_ hkd
 have fg:Fm g:=ft.kid (by rw [hkd];simp)
 have fa:Fm a:=ft.kid (by rw [hkd];simp)
 have hp:=ft.r14 h14
 rw [g0,bD,d0,d1]
 by_cases h16:g.kind=16
 case neg=>rw [beq_false_of_ne h16,ef,au,if_neg (fun h=>h16 h.2)];rfl
 rw [h16,show (!((16:Int)==16))=false from rfl,ak,oY t ht.1 _ ht.2.1,if_pos ⟨rfl,rfl⟩]
 simp only [g0,g1,bD]
 generalize hphi:t.r=phi at hp
 obtain ⟨x1,x2,x3,x4,x5,x6⟩:=a
 simp only [pj x1 x2 x3 x4 x5 x6]
 rw [aeu hk fg h16 fa hp]
 unfold d7
 dsimp only
 obtain ⟨fB,sB,lB⟩:=yx hk fg h16 fa hp
 generalize jz g phi (Tm.mk x1 x2 x3 x4 x5 x6)=B at fB sB lB ⊢
 obtain ⟨st,⟨y1,y2,y3,y4,y5,y6⟩,c0⟩:=B
 dsimp only at fB sB lB ⊢
 simp only [pj y1 y2 y3 y4 y5 y6]
 rw [ae0 hk (fun _=>fg.isIn hk)]
 have gG:GN (mM c0 (bX 0 [⟨0,0⟩] g)).1:=si fg h16 lV (vT (by decide))
 generalize mM c0 (bX 0 [⟨0,0⟩] g)=G at gG ⊢
 obtain ⟨f1,hG,lG,hone⟩:=Ar gG
 have i1:=fB.sm.1.isIn hk (by omega)
 have main: ∀ {z1 z2:Int} {z3:BA} {z4:LC} {z5:LT} {z6:LB},Tm.mk z1 z2 z3 z4 z5 z6=eQ G.1.kids->
   (rK k G.1.sys G.2 phi x1 x2 x3 x4 x5 x6 st y1 y2 y3 y4 y5 y6 z1 z2 z3 z4 z5 z6 fun r10=>rJ k r10.2 phi x1 x2 x3 x4 x5 x6 st y1 y2 y3 y4 y5 y6 z1 z2 z3 z4 z5 z6 fun r11=>oL k J t (c0,st,y1,y2,y3,y4,y5,y6) (Tm.mk x1 x2 x3 x4 x5 x6) G k r11.2 z1 z2 z3 z4 z5 z6 [] 0 r10.1 r11.1)=
    (fun q:Tm×Int=>J ((dM q.2 q.1).1,(dM q.2 q.1).2==0,(dM q.2 q.1).2)) (.mk 17 0 aw [] [.mk 15 0 aw [] [eQ G.1.kids,Tm.mk y1 y2 y3 y4 y5 y6] ((d4 phi (fun c=>mM c (cJ 0 1 (Tm.mk y1 y2 y3 y4 y5 y6))) (cD (gN phi (Tm.mk x1 x2 x3 x4 x5 x6) (Tm.mk y1 y2 y3 y4 y5 y6) (eQ G.1.kids) st) G.2 G.1.sys).2).1++(cD (iv (Tm.mk y1 y2 y3 y4 y5 y6)) (d4 phi (fun c=>mM c (cJ 0 1 (Tm.mk y1 y2 y3 y4 y5 y6))) (cD (gN phi (Tm.mk x1 x2 x3 x4 x5 x6) (Tm.mk y1 y2 y3 y4 y5 y6) (eQ G.1.kids) st) G.2 G.1.sys).2).2 (G.1.sys.zip (cD (gN phi (Tm.mk x1 x2 x3 x4 x5 x6) (Tm.mk y1 y2 y3 y4 y5 y6) (eQ G.1.kids) st) G.2 G.1.sys).1)).1)] ((G.1.sys.zip (cD (gN phi (Tm.mk x1 x2 x3 x4 x5 x6) (Tm.mk y1 y2 y3 y4 y5 y6) (eQ G.1.kids) st) G.2 G.1.sys).1).map qG),(cD (iv (Tm.mk y1 y2 y3 y4 y5 y6)) (d4 phi (fun c=>mM c (cJ 0 1 (Tm.mk y1 y2 y3 y4 y5 y6))) (cD (gN phi (Tm.mk x1 x2 x3 x4 x5 x6) (Tm.mk y1 y2 y3 y4 y5 y6) (eQ G.1.kids) st) G.2 G.1.sys).2).2 (G.1.sys.zip (cD (gN phi (Tm.mk x1 x2 x3 x4 x5 x6) (Tm.mk y1 y2 y3 y4 y5 y6) (eQ G.1.kids) st) G.2 G.1.sys).1)).2):=by
  intro z1 z2 z3 z4 z5 z6 hz
  rw [<-hz] at f1
  rw [afl hk fa fB f1 hp sB lB hG lG,<-hz]
  have hws:=H4 (phi:=phi) (st:=st) (c:=G.2) hk fa fB f1 hp sB lB hG
  have hwl:(cD (gN phi (Tm.mk x1 x2 x3 x4 x5 x6) (Tm.mk y1 y2 y3 y4 y5 y6) (Tm.mk z1 z2 z3 z4 z5 z6) st) G.2 G.1.sys).1.length=G.1.sys.length:=oq
  generalize cD (gN phi (Tm.mk x1 x2 x3 x4 x5 x6) (Tm.mk y1 y2 y3 y4 y5 y6) (Tm.mk z1 z2 z3 z4 z5 z6) st) G.2 G.1.sys=ws at hws hwl ⊢
  rw [afj hk i1]
  have fU: ∀c,FN (mM c (cJ 0 1 (Tm.mk y1 y2 y3 y4 y5 y6))).1:=fun c=>oB (by omega) (by omega) fB.sm.1.ok
  obtain ⟨w1,w2⟩:=w_ (F:=fun c=>mM c (cJ 0 1 (Tm.mk y1 y2 y3 y4 y5 y6))) hp (n:=20000) (fun c=>⟨(fU c).sm.1,by have:=(fU c).sm.2;omega⟩) ws.2
  generalize d4 phi (fun c=>mM c (cJ 0 1 (Tm.mk y1 y2 y3 y4 y5 y6))) ws.2=W at w1 w2 ⊢
  have hzip: ∀q∈G.1.sys.zip ws.1,q.1∈G.1.sys/\q.2∈ws.1:=fun q hq=>⟨(List.of_mem_zip hq).1,(List.of_mem_zip hq).2⟩
  have key:=aav (z1:=z1) (z2:=z2) (z3:=z3) (z4:=z4) (z5:=z5) (z6:=z6) hk J (r3:=t) (x4:=Tm.mk x1 x2 x3 x4 x5 x6) (r6:=(c0,st,y1,y2,y3,y4,y5,y6)) (r8:=G) (a1:=Tm.mk y1 y2 y3 y4 y5 y6) rfl fB.sm.1.ok i1 hG lG (ws:=ws.1) (fun w hw=>(hws w hw).1.isIn hk (by omega)) hwl
   (END:=fun pa sy c=>mi k (.mk 17 0 aw [] [.mk 15 0 aw [] [Tm.mk z1 z2 z3 z4 z5 z6,Tm.mk y1 y2 y3 y4 y5 y6] sy] pa) c fun r33=>J (r33.1,r33.2.1,r33.2.2.1)) (fun m c pa sy=>by
    have:=eL (l:=G.1.sys) (p:=G.1.sys) (by simp)
    simp only [oL,xU,this,ak,ao hk.fu,aM,h_])
   G.1.sys [] ws.1 [] [] W.1 k W.2 rfl rfl rfl (by omega) rfl (by simpa using w2)
  refine aq ?_ (key.trans ?_)
  ·rfl
  rw [eF]
  dsimp only
  generalize hZ:cD (iv (Tm.mk y1 y2 y3 y4 y5 y6)) W.2 (G.1.sys.zip ws.1)=Z
  have zq: ∀y∈Z.1,∃t,y.kids=[t]/\OkT t/\ap t<=299/\av y.face/\y.face.length<1073741824:=by
   rw [<-hZ]
   exact vv fun q hq c=>Jz fB.sm.1.ok (hws q.2 (hzip q hq).2).1.ok (hG q.1 (hzip q hq).1).2.2.1.ok (g5 (hG q.1 (hzip q hq).1).2.2.2) c
  have zl:Z.1.length=(G.1.sys.zip ws.1).length:=by rw [<-hZ];exact oq
  have pq: ∀y∈(G.1.sys.zip ws.1).map qG,∃t,y.kids=[t]/\OkT t/\ap t<=301/\av y.face/\y.face.length<1073741824:=fun y hy=>by
   obtain ⟨q,hq,rfl⟩:=dA.1 hy
   obtain ⟨h1,h2⟩:=hws q.2 (hzip q hq).2
   have r:=g5 (hG q.1 (hzip q hq).1).2.2.2
   refine ⟨_,rfl, ?_, ?_,r.1,r.2⟩
   ·unfold aH;rw [OkT,aK,aK,bk];exact ⟨⟨by unfold aI;omega,by unfold aI;omega,by decide,(fun c hc=>by cases hc),by simp,by simp,by simp⟩,⟨h1.ok,trivial⟩,trivial⟩
   ·unfold aH;rw [ap,bj,bj,bB];omega
  obtain ⟨o1,o2⟩:=B0 (l:=W.1++Z.1) (n:=299) fun y hy=>by
   rcases eu.1 hy with hy|hy
   ·obtain ⟨t,q1,q2,q3,q4,q5⟩:=w1 y hy;exact ⟨t,q1,q2.ok,q3,q4,q5⟩
   ·exact zq y hy
  obtain ⟨o3,o4⟩:=B0 pq
  have hzl:(G.1.sys.zip ws.1).length<=10000:=by rw [List.length_zip];omega
  have b1:=f1.sm;have b2:=fB.sm
  refine aeZ hk ?_ ?_ _
  ·rw [OkT,aK,aK,OkT,aK,aK,aK]
   exact ⟨⟨by unfold aI;omega,by unfold aI;omega,by decide,(fun c hc=>by cases hc),by simp,by simp,by rw [List.length_map];omega⟩,⟨⟨⟨by unfold aI;omega,by unfold aI;omega,by decide,(fun c hc=>by cases hc),by simp,by simp,by rw [List.length_append];omega⟩,⟨b1.1.ok,b2.1.ok,trivial⟩,o1⟩,trivial⟩,o3⟩
  ·rw [ap,bj,bj,ap,bj,bj,bj];have:=b1.2;have:=b2.2;omega
 rcases hone with ⟨e1,e2⟩|⟨e1,e2⟩
 ·have gk:ar G.1.kids 0=some (eQ G.1.kids):=by rw [e2];rfl
  rw [e1,show ((((1:Nat):Int))==1)=true from rfl,au,gk,bD]
  generalize hz:eQ G.1.kids=z at main ⊢
  obtain ⟨z1,z2,z3,z4,z5,z6⟩:=z
  simp only [pj z1 z2 z3 z4 z5 z6]
  exact main rfl
 ·rw [e1,show ((((0:Nat):Int))==1)=false from rfl,ak]
  exact main e2.symm


structure ElimP (k:Nat) (t:Tm) (f b line:Tm) (l:LB) (y:Tm):Prop where
 so:dX [(lK t).kids.getD 0 noT,(lK t).kids.getD 1 noT,cE (lK t).sys]=0
 fill:it ((lK t).kids.getD 0 noT) ((lK t).kids.getD 1 noT) (lK t).sys= .ok f
 up:cG 0 1 (t.kids.getD 0 noT)= .ok b
 plug:acH 0 b f= .ok line
 brs:Jo t.kind b (AM t) (lK t).sys= .ok l
 so2:dX [line,z8 t.kind (t.kids.getD 0 noT) (AM t) ((lK t).kids.getD 1 noT),cE l]=0
 comp:jh line (z8 t.kind (t.kids.getD 0 noT) (AM t) ((lK t).kids.getD 1 noT)) l= .ok y
 fy:dl y=0
 ff:Fm f
 fb:Fm b
 fl:Fm line
 fa:Fm (z8 t.kind (t.kids.getD 0 noT) (AM t) ((lK t).kids.getD 1 noT))
 fw:Fm (cE l)
 bs:l.map (·.face)=(lK t).sys.map (·.face)
 yin:In k y
end Go.Proofs.YtgajalidbabccaaGreatDoor
namespace Go.Proofs.YtgajalidbabccaaGreatDoor
open Go PI
set_option maxRecDepth 20000
section
variable {n kd:Int} {u:Tm}
end
section
variable {f g:Int->LC->Except Int (LC)} {kd:Int}
theorem Vg: ∀ {l l':LT} {i:Nat} {n:Int},(∀x∈l,∀ {n:Int} {t':Tm},cj f g n x= .ok t'->aO t'<=aO x)->dr f g n kd i l= .ok l'->dD kd i l'<=dD kd i l:=by
 intro l
 induction l with
 |nil=>intro l' i n _ h;rw [dr] at h;injection h with h;subst h;exact f_ _
 |cons t l ih=>
  intro l' i n h hl
  rw [dr] at hl
  obtain ⟨t',e1,hl⟩:=am hl
  obtain ⟨m,e2,hl⟩:=am hl
  injection hl with hl;subst hl
  rw [dD,dD]
  have:=h t (by simp) e1
  have:=ih (fun x hx=>h x (by simp [hx])) e2
  omega
theorem Vh: ∀ {l l':LT} {n:Int},(∀x∈l,∀ {n:Int} {t':Tm},cj f g n x= .ok t'->aO t'<=aO x)->dv f g n kd l= .ok l'->dN l'<=dN l:=by
 intro l
 induction l with
 |nil=>intro l' n _ h;rw [dv] at h;injection h with h;subst h;exact f_ _
 |cons t l ih=>
  intro l' n h hl
  rw [dv] at hl
  obtain ⟨t',e1,hl⟩:=am hl
  obtain ⟨m,e2,hl⟩:=am hl
  injection hl with hl;subst hl
  rw [dN,dN]
  have:=h t (by simp) e1
  have:=ih (fun x hx=>h x (by simp [hx])) e2
  omega
theorem Vi: ∀ {l l':LB} {n:Int},(∀b∈l,∀x∈b.kids,∀ {n:Int} {t':Tm},cj f g n x= .ok t'->aO t'<=aO x)->ck f g n kd l= .ok l'->dw l'<=dw l:=by
 intro l
 induction l with
 |nil=>intro l' n _ h;rw [ck] at h;injection h with h;subst h;exact f_ _
 |cons b l ih=>
  intro l' n h hl
  rw [ck] at hl
  obtain ⟨o,e1,hl⟩:=am hl
  obtain ⟨m,e2,hl⟩:=am hl
  injection hl with hl;subst hl
  obtain ⟨r,ks⟩:=b
  rw [i8] at e1
  obtain ⟨r',e3,e1⟩:=am e1
  have hi:=ih (fun b hb=>h b (by simp [hb])) e2
  split at e1
  ·injection e1 with e1;subst e1
   rw [dw]
   show dw m<=_
   omega
  ·obtain ⟨ks',e4,e1⟩:=am e1
   injection e1 with e1;subst e1
   have:=Vh (kd:=kd) (l:=ks) (h ⟨r,ks⟩ (by simp)) e4
   show dw (⟨r',ks'⟩::m)<=_
   rw [dw,dw,jy,jy]
   omega
theorem U0 (t:Tm): ∀ {n:Int} {t':Tm},cj f g n t= .ok t'->aO t'<=aO t:=by
 induction t using ik with
 |h kd m nm r ks sys ih1 ih2=>
  intro n t' h
  rw [cj] at h
  obtain ⟨r1,e1,h⟩:=am h
  obtain ⟨ks1,e2,h⟩:=am h
  obtain ⟨sys1,e3,h⟩:=am h
  injection h with h;subst h
  rw [aO,aO]
  have:=Vg ih1 e2
  have:=Vi ih2 e3
  omega
end
theorem C8 {i:Int} {r:LC} {t t':Tm} (h:eS i r t= .ok t'):aO t'<=aO t:=by
 unfold eS at h
 obtain ⟨s,e1,h⟩:=am h
 exact U0 t h
mutual
def fM:Tm->Int
 | .mk kd _ _ _ ks sys=>iq kd 0 ks+gS sys
def iq (kd:Int) (i:Nat):LT->Int
 |[]=>0
 |t::l=>bJ kd i+fM t+iq kd (i+1) l
def gS:LB->Int
 |[]=>0
 |b::l=>yA b+gS l
def yA:Br Tm->Int
 | .mk _ ks=>iH ks
def iH:LT->Int
 |[]=>0
 |t::l=>1+fM t+iH l
end
theorem Dd (t:Tm):aO t<=fM t/\fM t+1<=(aG t:Int)*2:=by
 induction t using ik with
 |h kd n nm r ks sys ih1 ih2=>
  have hk: ∀ {l:LT} {i:Nat},(∀x∈l,aO x<=fM x/\fM x+1<=(aG x:Int)*2)->0<=iq kd i l/\dD kd i l<=iq kd i l/\iq kd i l<=(aD l:Int)*2:=by
   intro l
   induction l with
   |nil=>intro i _;rw [iq,dD,aD];omega
   |cons t l ih=>
    intro i h
    rw [iq,dD,aD]
    have h1:=h t (by simp)
    have h2:=ih (i:=i+1) fun x hx=>h x (by simp [hx])
    have h3:=jA kd i
    have h4:=pH t
    omega
  have hm: ∀ {l:LT},(∀x∈l,aO x<=fM x/\fM x+1<=(aG x:Int)*2)->0<=iH l/\dN l<=iH l/\iH l<=(aD l:Int)*2:=by
   intro l
   induction l with
   |nil=>intro _;rw [iH,dN,aD];omega
   |cons t l ih=>
    intro h
    rw [iH,dN,aD]
    have h1:=h t (by simp)
    have h2:=ih fun x hx=>h x (by simp [hx])
    have h4:=pH t
    omega
  have hs: ∀ {l:LB},(∀b∈l,∀x∈b.kids,aO x<=fM x/\fM x+1<=(aG x:Int)*2)->0<=gS l/\dw l<=gS l/\gS l<=(aJ l:Int)*2:=by
   intro l
   induction l with
   |nil=>intro _;rw [gS,dw,aJ];omega
   |cons b l ih=>
    intro h
    obtain ⟨f,ks⟩:=b
    have h1:=hm (h ⟨f,ks⟩ (by simp))
    have h2:=ih fun b hb=>h b (by simp [hb])
    rw [gS,dw,aJ,yA,jy,js]
    have e:(Br.mk f ks).kids=ks:=rfl
    rw [e] at h1
    omega
  have h1:=hk (i:=0) ih1
  have h2:=hs ih2
  rw [aO,fM,aG]
  omega
theorem yB (t:Tm):0<=fM t:=by have:=Dd t;have:=pH t;omega
theorem Va (kd:Int): ∀ (l:LT) (i:Nat),0<=iq kd i l:=by
 intro l
 induction l with
 |nil=>intro i;rw [iq];omega
 |cons t l ih=>intro i;rw [iq];have:=ih (i+1);have:=yB t;have:=jA kd i;omega
theorem Dc: ∀ (l:LT),0<=iH l:=by
 intro l
 induction l with
 |nil=>rw [iH];omega
 |cons t l ih=>rw [iH];have:=yB t;omega
theorem Is: ∀ (l:LB),0<=gS l:=by
 intro l
 induction l with
 |nil=>rw [gS];omega
 |cons b l ih=>obtain ⟨f,ks⟩:=b;rw [gS,yA];have:=Dc ks;omega
variable {S:Type} {k:Nat}
theorem afw {V D:Int} {t:Tm} (h:cr V D t):D<=24:=acC h
theorem GK {V D:Int} {t:Tm} (h:cr V D t):bK true V D t.kind 0 t.kids=true/\aL true V D t.kind t.sys=true/\dS V D t=true:=by
 obtain ⟨kd,n,nm,r,ks,sys⟩:=t
 unfold cr at h
 rw [aE,af,af,af] at h
 exact ⟨h.2.2.1,h.2.2.2,h.2.1⟩
theorem afn {V D:Int} {x:Tm} (h:cr V D x) (hk:x.kind=15):x.sys.all (aR 15 D)=true/\aL true V D 15 x.sys=true/\ ∀ {u a:Tm},x.kids=[u,a]->cr V D u/\cr V D a:=by
 obtain ⟨h1,h2,h3⟩:=GK h
 rw [hk] at h1 h2
 refine ⟨?_,h2,fun hx=> ?_⟩
 ·obtain ⟨kd,n,nm,r,ks,sys⟩:=x
  have hk:kd=15:=hk
  subst hk
  have:(_&&(sys.all (aR 15 D)&&_))=true:=h3
  simp only [af] at this
  exact this.2.1
 ·rw [hx,all2] at h1
  have e1:cY 15 ((0:Nat):Int)=0:=rfl
  have e2:bJ 15 ((0:Nat):Int)=0:=rfl
  have e3:cY 15 ((0+1:Nat):Int)=0:=rfl
  have e4:bJ 15 ((0+1:Nat):Int)=0:=rfl
  rw [e1,e2,e3,e4,gM,eb] at h1
  exact h1
theorem afC {V D:Int} {sys:LB} (hD:D<=24) (h1:sys.all (aR 15 D)=true) (h2:aL true V D 15 sys=true):cr V D (cE sys):=by
 have h3:cr V D (.mk 3 0 aw [] [] []):=BR (kd:=3) (l:=[]) (by decide) rfl hD (by rw [bK])
 exact BO hD h3 h3 h1 h2

theorem rp {kd D:Int} {f:LC} {ks:LT} (h:(ks.length:Int)=fJ kd) (h1:cm f=true) (h2:bM f D=true):aR kd D ⟨f,ks⟩=true:=by
 show (decide ((ks.length:Int)=fJ kd)&&(cm f&&bM f D))=true
 grind
theorem Pq {V D kd:Int}: ∀ {l:LB},(∀y∈l,aR kd D y=true/\dn true V D kd y.kids=true)->l.all (aR kd D)=true/\aL true V D kd l=true:=by
 intro l
 induction l with
 |nil=>grind [aL]
 |cons x l ih=>
  intro h
  obtain ⟨q1,q2⟩:=h x (by simp)
  obtain ⟨i1,i2⟩:=ih fun y hy=>h y (by simp [hy])
  obtain ⟨f,ks⟩:=x
  grind [aL,g8]
theorem agc {V D:Int}: ∀ {sys:LB},(∀b∈sys,b.kids=[aF b])->sys.all (aR 15 D)=true->aL true V D 15 sys=true-> ∀x∈sys,cm x.face=true/\bM x.face D=true/\cr V (D+1) (aF x):=by
 intro sys
 induction sys with
 |nil=>simp
 |cons b r ih=>
  intro hk h1 h2 x hx
  rw [fq,af] at h1
  obtain ⟨k1,k2⟩:=Ku (hk b (by simp)) h2
  grind [aR]
theorem UO {kd:Int}: ∀ {l:LT} {i:Nat} {x:Tm},x∈l->aO x<=dD kd i l:=by
 intro l
 induction l with
 |nil=>simp
 |cons t l ih=>
  intro i x h
  rw [dD]
  have:=(jA kd i).1
  rcases eh.1 h with rfl|h
  ·omega
  ·have:=ih (i:=i+1) h;omega
theorem uK {t x:Tm} (h:x∈t.kids):aO x<=aO t:=by
 obtain ⟨kd,n,nm,r,ks,sys⟩:=t
 have:=UO (kd:=kd) (i:=0) h
 grind [aO,Tm.kids]
theorem C7 (t:Tm):dw t.sys<=aO t:=by
 obtain ⟨kd,n,nm,r,ks,sys⟩:=t
 grind [aO,Tm.sys]
theorem UR: ∀ {l:LT} {x:Tm},x∈l->1+aO x<=dN l:=by
 intro l
 induction l<;>grind [dN]
theorem Io: ∀ {l:LB} {b:Br Tm} {x:Tm},b∈l->x∈b.kids->1+aO x<=dw l:=by
 intro l
 induction l with
 |nil=>simp
 |cons c l ih=>
  intro b x h hx
  rw [dw]
  rcases eh.1 h with rfl|h
  ·obtain ⟨f,ks⟩:=b
   have:=UR (l:=ks) hx
   rw [jy];omega
  grind
theorem afu {kd V D:Int} (h:kd=9\/kd=10) (hD:D<=24) {a:Tm} (ha:cr V D a):cr V D (aH kd [a]):=by
 have e1:cY kd ((0:Nat):Int)=0:=by grind [cY]
 have e2:bJ kd ((0:Nat):Int)=0:=by grind [bJ]
 refine BR (by omega) (by rcases h with rfl|rfl<;>rfl) hD (all1.2 ?_)
 grind [gM]
theorem afv {kd V D:Int} (h:kd=6\/kd=8) (hD:D<=24) {a b:Tm} (ha:cr V D a) (hb:cr V D b):cr V D (aH kd [a,b]):=by
 have e1:cY kd ((0:Nat):Int)=0:=by grind [cY]
 have e2:bJ kd ((0:Nat):Int)=0:=by grind [bJ]
 have e3:cY kd ((0+1:Nat):Int)=0:=by grind [cY]
 have e4:bJ kd ((0+1:Nat):Int)=0:=by rfl
 refine BR (by omega) (by rcases h with rfl|rfl<;>rfl) hD (all2.2 ⟨?_, ?_⟩)
 all_goals grind [gM]
theorem BQ {kd V D:Int} (h:kd=16\/kd=17\/kd=18) (hD:D<=24) {a:Tm} {sys:LB} (ha:cr V D a) (hb:sys.all (aR kd D)=true) (hs:aL true V D kd sys=true):cr V D (.mk kd 0 aw [] [a] sys):=by
 have e1:cY kd ((0:Nat):Int)=0:=by grind [cY]
 have e2:bJ kd ((0:Nat):Int)=0:=by grind [bJ]
 unfold cr
 rw [aE,hs,all1.2 (by grind [gM])]
 have:dS V D (.mk kd 0 aw [] [a] sys)=true:=by
  rcases h with rfl|rfl|rfl
  ·show (true&&(sys.all (aR 16 D)&&true))=true
   grind
  ·show (true&&(sys.all (aR 17 D)&&true))=true
   grind
  ·show (true&&(sys.all (aR 18 D)&&true))=true
   grind
 grind
theorem allM1 {V D kd:Int} {t:Tm}:dn true V D kd [t]=true↔cr V (D+aN kd) t:=by grind [dn]
section
variable {V D:Int} {a y k0:Tm} {sys:LB}
end
section
variable {V D:Int} {a y:Tm} {sys:LB}
end
theorem afo {V D:Int} {g:Tm} (h:cr V D g) (hk:g.kind=16) (hx: ∀b∈g.sys,b.kids=[aF b,k1 b]):(∀x∈g.sys,cm x.face=true/\bM x.face D=true/\cr V D (aF x)/\cr V D (k1 x))/\ ∀ {a:Tm},g.kids=[a]->cr V D a:=by
 obtain ⟨h1,h2,h3⟩:=GK h
 rw [hk] at h1 h2
 refine ⟨?_,fun ha=> ?_⟩
 ·have hb:g.sys.all (aR 16 D)=true:=by
   obtain ⟨kd,n,nm,r,ks,sys⟩:=g
   have hk:kd=16:=hk
   subst hk
   have:(_&&(sys.all (aR 16 D)&&_))=true:=h3
   simp only [af] at this
   exact this.2.1
  intro x hxm
  have b1:=dU.1 hb x hxm
  rw [lk] at h2
  have b2:=dU.1 h2 x hxm
  unfold aR at b1
  simp only [af] at b1
  have m16:aN 16=0:=rfl
  rw [hx x hxm,m16,eb,fq,fq,af,af] at b2
  exact ⟨b1.2.1,b1.2.2,b2.1,b2.2.1⟩
 ·have e1:cY 16 ((0:Nat):Int)=0:=rfl
  have e2:bJ 16 ((0:Nat):Int)=0:=rfl
  rw [ha,all1,e1,e2,gM,eb] at h1
  exact h1
theorem afq {V D:Int} {g:Tm} (hin: ∀x∈g.sys,cm x.face=true/\bM x.face D=true/\cr V D (aF x)/\cr V D (k1 x)):(bY g).all (aR 18 D)=true/\aL true V D 18 (bY g)=true:=by
 have m18:aN 18=0:=rfl
 refine Pq fun z hz=> ?_
 obtain ⟨x,hx,rfl⟩:=dA.1 hz
 obtain ⟨r1,r2,r3,r4⟩:=hin x hx
 exact ⟨rp rfl r1 r2,allM1.2 (by rw [m18,eb];exact r4)⟩
theorem UV {g:Tm} (hx: ∀b∈g.sys,b.kids=[aF b,k1 b]):dw (bY g)<=dw g.sys:=by
 unfold bY
 generalize g.sys=l at hx
 induction l with
 |nil=>exact f_ _
 |cons x l ih=>
  have h:=hx x (by simp)
  have:=ih fun b hb=>hx b (by simp [hb])
  rw [iG,dw,dw,jy,dN,dN]
  obtain ⟨f,ks⟩:=x
  have h:ks=[aF ⟨f,ks⟩,k1 ⟨f,ks⟩]:=h
  have e:dN ks=max (1+aO (aF ⟨f,ks⟩)) (max (1+aO (k1 ⟨f,ks⟩)) 0):=by rw [h,dN,dN,dN];rfl
  rw [jy,e]
  omega
theorem afB {V D:Int} (hD:D<=24):cr V D dF:=BR (kd:=3) (l:=[]) (by decide) rfl hD (by rw [bK])
theorem afA {V D:Int} {u w:Tm} (hu: ∃a' es',u=dC a' es') (hs:cr V D u) (hw:cr V D w):cr V D (qQ u [w]):=by
 obtain ⟨a',es',rfl⟩:=hu
 obtain ⟨h1,h2,h3⟩:=GK hs
 have:(true&&(es'.all (aR 18 D)&&true))=true:=h3
 rw [Bool.true_and,Bool.and_true] at this
 exact BQ (.inr (.inr rfl)) (afw hs) hw this h2
theorem afy (hk:F3 k) {V D:Int} {t g b a y:Tm} (ft:Fm t) (h15:t.kind=15) (hkd:t.kids=[g,b]) (h16:g.kind=16) (ha:g.kids=[a]) (hV:0<=V) (hD:0<=D/\D<=6) (hs:cr V D t) (bt:aO t<=4) (h:oQ t= .ok y):
  cr V D y/\y.kind=17/\(∃z,y.kids=[z]/\z.kind=15)/\y.sys.map (·.face)=g.sys.map (·.face):=by
 have fg:Fm g:=ft.kid (by rw [hkd];simp)
 have fb:Fm b:=ft.kid (by rw [hkd];simp)
 obtain ⟨d0,d1⟩:=r_ hkd
 obtain ⟨sy,syl⟩:=ft.sy h15
 obtain ⟨gx,gl,_⟩:=fg.gl h16
 obtain ⟨x1,x2,x3⟩:=afn hs h15
 obtain ⟨sg,sb⟩:=x3 hkd
 obtain ⟨gin,ga⟩:=afo sg h16 fun b hb=>(gx b hb).1
 have sa:=ga ha
 obtain ⟨s1,s2⟩:=afq gin
 have bg:=uK (t:=t) (x:=g) (by rw [hkd];simp)
 have bb:=uK (t:=t) (x:=b) (by rw [hkd];simp)
 have bsy:=C7 t
 have bgs:=C7 g
 have bes:=UV fun b hb=>(gx b hb).1
 have m15:aN 15=1:=rfl
 have m17:aN 17=0:=rfl
 unfold oQ at h
 rw [d0,d1] at h
 obtain ⟨l1,e1,h⟩:=am h
 obtain ⟨l2,e2,h⟩:=am h
 injection h with h;subst h
 have fe:=Ae fg h16
 have su:cr V D (dC dF (bY g)):=BQ (.inr (.inr rfl)) (by omega) (afB (by omega)) s1 s2
 have bu:aO (dC dF (bY g))<=4:=by
  have e2:bJ 18 ((0:Nat):Int)=0:=rfl
  have e3:aO dF=0:=by rw [aO,dD,dw];rfl
  rw [aO,dD,dD,e2,e3];omega
 have hin:=agc (fun b hb=>(sy b hb).1) x1 x2
 have k1': ∀ {r l:LB},(∀x∈r,x∈t.sys)->ig (bY g) r= .ok l->l.all (aR 15 D)=true/\aL true V D 15 l=true:=by
  intro r
  induction r with
  |nil=>intro l _ h;rw [ig] at h;injection h with h;subst h;exact ⟨rfl,by rw [aL]⟩
  |cons x r ih=>
   intro l hr h
   rw [ig] at h
   obtain ⟨u,g1,h⟩:=am h
   obtain ⟨m,g2,h⟩:=am h
   injection h with h;subst h
   obtain ⟨i1,i2⟩:=ih (fun x hx=>hr x (by simp [hx])) g2
   obtain ⟨r1,r2,r3⟩:=hin x (hr x (by simp))
   have uu:=wU fe (a:=0) (b:=1) (by omega) (by omega) hV su (by omega) g1
   rw [eb] at uu
   rw [fq,af,aL,af,g8]
   exact ⟨⟨rp rfl r1 r2,i1⟩,allM1.2 (by rw [m15];exact afA (agK g1) uu r3),i2⟩
 obtain ⟨q1,q2⟩:=k1' (fun x hx=>hx) e1
 have swh:=afC (V:=V) (D:=D) (by omega) x1 x2
 have hwx:=B9 hk ft
 have k2': ∀ {r l:LB},(∀x∈r,x∈g.sys)->iz b t.sys r= .ok l->l.all (aR 15 D)=true/\aL true V D 15 l=true:=by
  intro r
  induction r with
  |nil=>intro l _ h;rw [iz] at h;injection h with h;subst h;exact ⟨rfl,by rw [aL]⟩
  |cons x r ih=>
   intro l hr h
   rw [iz] at h
   obtain ⟨f,g1,h⟩:=am h
   obtain ⟨w,g2,h⟩:=am h
   obtain ⟨m,g3,h⟩:=am h
   injection h with h;subst h
   obtain ⟨i1,i2⟩:=ih (fun x hx=>hr x (by simp [hx])) g3
   have hxm:=hr x (by simp)
   obtain ⟨r1,r2,r3,r4⟩:=gin x hxm
   obtain ⟨y1,y2,y3,y4⟩:=gx x hxm
   have b1:=Io (b:=x) (x:=aF x) hxm (by rw [y1];simp)
   have b2:=Io (b:=x) (x:=k1 x) hxm (by rw [y1];simp)
   have uf:=wU y3 (a:=0) (b:=1) (by omega) (by omega) hV r4 (by omega) g1
   rw [eb] at uf
   obtain ⟨so,ff,hfe⟩:=qV g2
   obtain ⟨c1,c2,c3⟩:=wV y2.ok fb.ok hwx.1 so
   have sw:=afr c1 c2 (by omega) hV r3 sb swh (pm c3) (by omega) (by omega) (by omega) hfe
   rw [fq,af,aL,af,g8]
   exact ⟨⟨rp rfl r1 r2,i1⟩,allM1.2 (by rw [m15];exact afv (.inl rfl) (by omega) (afu (.inl rfl) (by omega) uf) sw),i2⟩
 obtain ⟨q3,q4⟩:=k2' (fun x hx=>hx) e2
 have h15':cr V D (.mk 15 0 aw [] [a,dC b (bY g)] (l1++l2)):=by
  refine BO (by omega) sa (BQ (.inr (.inr rfl)) (by omega) sb s1 s2) (by rw [List.all_append,q1,q3];rfl) ?_
  rw [lk] at q2 q4 ⊢
  rw [List.all_append,q2,q4];rfl
 obtain ⟨t1,t2⟩:(kR b t.sys g.sys).all (aR 17 D)=true/\aL true V D 17 (kR b t.sys g.sys)=true:=by
  refine Pq fun z hz=> ?_
  obtain ⟨x,hx,rfl⟩:=dA.1 hz
  obtain ⟨r1,r2,r3,r4⟩:=gin x hx
  exact ⟨rp rfl r1 r2,allM1.2 (by rw [m17,eb];exact BO (by omega) r3 sb x1 x2)⟩
 have had:g.kids.getD 0 noT=a:=by rw [ha];rfl
 unfold tl
 rw [had]
 refine ⟨BQ (.inr (.inl rfl)) (by omega) h15' t1 t2,rfl,⟨_,rfl,rfl⟩, ?_⟩
 show (kR b t.sys g.sys).map (·.face)=_
 unfold kR;rw [List.map_map];rfl
theorem gall1 {bd:Bool} {V D kd:Int} {i:Nat} {t:Tm}:bK bd V D kd i [t]=true↔aE bd (cL V (cY kd i)) (D+bJ kd i) t=true:=by
 grind [bK]
theorem gall2 {bd:Bool} {V D kd:Int} {i:Nat} {t u:Tm}:bK bd V D kd i [t,u]=true↔aE bd (cL V (cY kd i)) (D+bJ kd i) t=true/\aE bd (cL V (cY kd (i+1:Nat))) (D+bJ kd (i+1:Nat)) u=true:=by
 grind [bK]
theorem gall3 {bd:Bool} {V D kd:Int} {i:Nat} {t u w:Tm}:bK bd V D kd i [t,u,w]=true↔aE bd (cL V (cY kd i)) (D+bJ kd i) t=true/\aE bd (cL V (cY kd (i+1:Nat))) (D+bJ kd (i+1:Nat)) u=true/\aE bd (cL V (cY kd (i+1+1:Nat))) (D+bJ kd (i+1+1:Nat)) w=true:=by
 grind [bK]
theorem t7 {V D kd n:Int} {nm:BA} {r:LC} {ks:LT} {sys:LB} (ho:dS V D (.mk kd n nm r ks sys)=true) (hk:bK false V D kd 0 ks=true) (hs:aL false V D kd sys=true):cq V D (.mk kd n nm r ks sys):=by
 grind [aE]
theorem t8 {V D kd:Int} {l:LT} (h1:kd≠1/\kd≠2) (hk:jJ kd=l.length) (ha:bK false V D kd 0 l=true):cq V D (aH kd l):=by
 unfold aH
 refine t7 ?_ ha (by rw [aL])
 unfold dS
 simp only [af,decide_eq_true_eq]
 refine ⟨⟨hk,by simp,by simp,fun _=>rfl⟩, ?_⟩
 rw [if_neg h1.1,if_neg h1.2]
 have hl:bM [] D=true:=E5 D [] rfl
 split
 ·rfl
 ·split
  all_goals rfl
theorem ahe {V D n:Int} (hn:0<=n) (hV:n<V):cq V D (vN n):=by
 unfold vN
 refine t7 ?_ (by rw [bK]) (by rw [aL])
 unfold dS
 simp only [af,decide_eq_true_eq]
 exact ⟨⟨rfl,by simp,by simp,fun _=>rfl⟩,by grind⟩
theorem Qn {bd:Bool} {V D:Int} {t:Tm} (h:aE bd V D t=true):bK bd V D t.kind 0 t.kids=true/\aL bd V D t.kind t.sys=true/\dS V D t=true:=by
 obtain ⟨kd,n,nm,r,ks,sys⟩:=t
 rw [aE,af,af,af] at h
 exact ⟨h.2.2.1,h.2.2.2,h.2.1⟩
theorem xa {V D:Int} {r:LC} {l a:Tm} (hr:cm r=true) (hlow:bM r D=true) (hl:cq V (D+1) l) (ha:cq V D a):cq V D (jv r l a):=by
 refine t7 ?_ ?_ (by rw [aL])
 ·show (true&&(cm r&&bM r D))=true
  grind
 ·rw [gall2]
  show aE false (cL V 0) (D+1) l=true/\aE false (cL V 0) (D+0) a=true
  grind [gM]
theorem Qh {V D:Int} {t:Tm} (h:cq V D t) (hk:t.kind=14) {l a:Tm} (hkd:t.kids=[l,a]):cm t.r=true/\bM t.r D=true/\cq V (D+1) l/\cq V D a:=by
 obtain ⟨h1,_,h3⟩:=Qn h
 rw [hk,hkd,gall2] at h1
 have e1:cY 14 ((0:Nat):Int)=0:=rfl
 have e2:bJ 14 ((0:Nat):Int)=1:=rfl
 have e3:cY 14 ((0+1:Nat):Int)=0:=rfl
 have e4:bJ 14 ((0+1:Nat):Int)=0:=rfl
 rw [e1,e2,e3,e4,gM,eb] at h1
 obtain ⟨kd,n,nm,r,ks,sys⟩:=t
 have hk:kd=14:=hk
 subst hk
 have:(_&&(cm r&&bM r D))=true:=h3
 simp only [af] at this
 exact ⟨this.2.1,this.2.2,h1.1,h1.2⟩
theorem Qi {V D:Int} {l a:Tm} {sys:LB} (hl:cq V D l) (ha:cq V D a) (hb:sys.all (aR 15 D)=true) (hs:aL false V D 15 sys=true):cq V D (.mk 15 0 aw [] [l,a] sys):=by
 refine t7 ?_ ?_ hs
 ·show (true&&(sys.all (aR 15 D)&&true))=true
  grind
 ·rw [gall2]
  show aE false (cL V 0) (D+0) l=true/\aE false (cL V 0) (D+0) a=true
  grind [gM]
theorem Qr {V D:Int}:cq V D dF:=t8 (kd:=3) (l:=[]) (by decide) rfl (by rw [bK])
theorem ahb {kd V D:Int} (h:kd=9\/kd=10) {a:Tm} (ha:cq V D a):cq V D (aH kd [a]):=by
 have e1:cY kd ((0:Nat):Int)=0:=by grind [cY]
 have e2:bJ kd ((0:Nat):Int)=0:=by grind [bJ]
 refine t8 (by omega) (by rcases h with rfl|rfl<;>rfl) (gall1.2 ?_)
 grind [gM]
theorem Qm {kd V D:Int} (h:kd=6\/kd=8) {a b:Tm} (ha:cq V D a) (hb:cq V D b):cq V D (aH kd [a,b]):=by
 have e1:cY kd ((0:Nat):Int)=0:=by grind [cY]
 have e2:bJ kd ((0:Nat):Int)=0:=by grind [bJ]
 have e3:cY kd ((0+1:Nat):Int)=0:=by grind [cY]
 have e4:bJ kd ((0+1:Nat):Int)=0:=by rfl
 refine t8 (by omega) (by rcases h with rfl|rfl<;>rfl) (gall2.2 ⟨?_, ?_⟩)
 all_goals grind [gM]
theorem ahd {kd V D:Int} (h:kd=16\/kd=17\/kd=18) {a:Tm} {sys:LB} (ha:cq V D a) (hb:sys.all (aR kd D)=true) (hs:aL false V D kd sys=true):cq V D (.mk kd 0 aw [] [a] sys):=by
 have e1:cY kd ((0:Nat):Int)=0:=by grind [cY]
 have e2:bJ kd ((0:Nat):Int)=0:=by grind [bJ]
 refine t7 ?_ (gall1.2 (by grind [gM])) hs
 rcases h with rfl|rfl|rfl
 ·show (true&&(sys.all (aR 16 D)&&true))=true
  grind
 ·show (true&&(sys.all (aR 17 D)&&true))=true
  grind
 ·show (true&&(sys.all (aR 18 D)&&true))=true
  grind
theorem ahc {V D:Int} {r:LC} {u lo hi:Tm} (hr:dT r=true) (hl:bM r D=true) (h1:cq V D u) (h2:cq V D lo) (h3:cq V D hi):cq V D (tu r u lo hi):=by
 refine t7 ?_ ?_ (by rw [aL])
 ·show (true&&(dT r&&bM r D))=true
  grind
 grind [cY,bJ,gall3,gM]
theorem ag6 {V D:Int} {x:Tm} (h:cq V (D+1) x):cq V D (aH 12 [x]):=by
 refine t8 (kd:=12) (by decide) rfl (gall1.2 ?_)
 show cq (cL V 0) (D+1) _
 rw [gM];exact h
theorem H2 {V D kd:Int}: ∀ {l:LB},(∀y∈l,aR kd D y=true/\dn false V D kd y.kids=true)->l.all (aR kd D)=true/\aL false V D kd l=true:=by
 intro l
 induction l with
 |nil=>grind [aL]
 |cons x l ih=>
  intro h
  obtain ⟨q1,q2⟩:=h x (by simp)
  obtain ⟨i1,i2⟩:=ih fun y hy=>h y (by simp [hy])
  obtain ⟨f,ks⟩:=x
  grind [aL,g8]
theorem Qo {V D kd:Int} {sys:LB} (h1:sys.all (aR kd D)=true) (h2:aL false V D kd sys=true): ∀x∈sys,cm x.face=true/\bM x.face D=true/\ ∀y∈x.kids,cq V (D+aN kd) y:=fun x hx=>by
 grind [lk,aR]
theorem wM1 {V D kd:Int} {t:Tm}:dn false V D kd [t]=true↔cq V (D+aN kd) t:=by grind [dn]
theorem Qk {V D kd:Int} {a b:LB} (ha:a.all (aR kd D)=true/\aL false V D kd a=true) (hb:b.all (aR kd D)=true/\aL false V D kd b=true):(a++b).all (aR kd D)=true/\aL false V D kd (a++b)=true:=by
 grind [lk]
theorem ag8 {V D kd:Int} {f:LC} {z:Tm} (hp:fJ kd=1) (h1:cm f=true) (h2:bM f D=true) (h3:cq V (D+aN kd) z):[(⟨f,[z]⟩:Br Tm)].all (aR kd D)=true/\aL false V D kd [⟨f,[z]⟩]=true:=
 H2 fun y hy=>by grind [rp,wM1]
theorem H1 {V D:Int} {r:LC} {t t':Tm} (hf:Fm t) (hD:0<=D) (hV:0<=V) (hr:RF r) (hl:bM r (D+2)=true) (hs:cq V (D+1) t) (h:g_ r t= .ok t'):cq V (D+2) t':=by
 unfold g_ at h
 obtain ⟨m,h1,h⟩:=am h
 have fm:=nD (by omega) hf h1
 have s1:=H3 (f_ 0) (by omega) (by omega) hV hf hs h1
 grind [xb]
theorem KE {D:Int} (hD:0<=D):bM [⟨1,0⟩,⟨2,0⟩] (D+2)=true:=oP (d:=2) BH (by decide) (by omega)
theorem ag_ {V D:Int} {t t':Tm} (hf:Fm t) (hD:0<=D) (hs:cq V (D+1) t) (h:eS 0 [⟨0,0⟩] t= .ok t'):cq V D t':=xb hf hD lV (oP (d:=0) lV (by decide) hD) hs h
theorem ag9 {V D:Int} {line a x:Tm} {sys:LB} (hl:Fm line) (hD:0<=D) (hV:0<=V) (s1:cq V (D+1) line) (s2:cq V D a) (w1:sys.all (aR 15 D)=true) (w2:aL false V D 15 sys=true) (sy: ∀b∈sys,b.kids=[aF b]) (h:jh line a sys= .ok x):cq V D x:=by
 unfold jh at h
 obtain ⟨l1,e1,h⟩:=am h
 obtain ⟨l,e2,h⟩:=am h
 injection h with h;subst h
 have m15:aN 15=1:=rfl
 have key: ∀ {r l:LB},(∀x∈r,x∈sys)->j8 line r= .ok l->l.all (aR 15 D)=true/\aL false V D 15 l=true:=by
  intro r
  induction r with
  |nil=>grind [j8,aL]
  |cons b r ih=>
   intro l hm h
   rw [j8] at h
   obtain ⟨u,q1,h⟩:=am h
   obtain ⟨m,q2,h⟩:=am h
   injection h with h;subst h
   obtain ⟨p1,p2,p3⟩:=Qo w1 w2 b (hm b (by simp))
   have hkid:=p3 (aF b) (by grind)
   have hu:=H1 hl hD hV BH (KE hD) s1 q1
   rw [m15] at hkid
   exact Qk (ag8 (kd:=15) rfl p1 p2 (by grind [xa,XV,E6])) (ih (fun x hx=>hm x (by simp [hx])) q2)
 obtain ⟨k1,k2⟩:=key (fun x hx=>hx) e2
 exact Qi (ag_ hl hD s1 e1) (xa (by decide) (E5 _ _ rfl) s1 s2) k1 k2
theorem ag7 {V D:Int} {line a x:Tm} {phi r:LC} {en:Cl} (hl:Fm line) (ha:Fm a) (hp:cm phi=true) (hpo:av phi) (hlow:bM phi D=true) (hen:cH en) (hel:bZ (fun j=>j=0) [en]) (hr:RF r) (hls:bM r (D+2)=true) (hD:0<=D) (hV:0<=V) (s1:cq V (D+1) line) (s2:cq V D a) (h:lm line phi a en r= .ok x):cq V (D+1) x:=by
 unfold lm at h
 obtain ⟨f1,e1,h⟩:=am h
 obtain ⟨f,e2,h⟩:=am h
 obtain ⟨l,e3,h⟩:=am h
 obtain ⟨a',e4,h⟩:=am h
 injection h with h;subst h
 have xp:=(kB hpo).1 hp
 have hr1:eB 0 1 phi= .ok f1:=by grind [eB]
 have r1:=wL xp.1 hr1
 have l1:=AJ xp.1 (by decide) (by decide) hlow hr1
 obtain ⟨h0,rfl⟩:=ju e2
 have re:av [en]:=fun c hc=>by grind
 have rj:=J4 r1.2 re h0
 have u:=xd ha (by omega) (by omega) hV s2 e4
 rw [eb] at u
 refine xa (RFa.right rj) ?_ ?_ u
 ·rw [jL rj.1]
  grind [jL,abt,kU]
 grind [H1]
theorem aha {V D:Int} {t a f y x:Tm} (ha:Fm a) (hf:Fm f) (hy:Fm y) (hV:0<=V) (s1:cq V D t) (s2:cq V D a) (s3:cq V D f) (s4:cq V D y) (h:gJ t a f y= .ok x):cq V D x:=by
 unfold gJ at h
 obtain ⟨a',e1,h⟩:=am h
 obtain ⟨y',e2,h⟩:=am h
 obtain ⟨f',e3,h⟩:=am h
 injection h with h;subst h
 have u1:=xd ha (by omega) (by omega) hV s2 e1
 have u2:=xd hy (by omega) (by omega) hV s4 e2
 have u3:=xd hf (by omega) (by omega) hV s3 e3
 rw [eb] at u2 u3
 refine t8 (by decide) rfl (gall2.2 ⟨?_, ?_⟩)
 ·show aE false (cL V 0) (D+0) t=true
  grind [gM]
 ·show cq (cL V 1) (D+0) _
  rw [agM hV,eb]
  refine t8 (by decide) rfl (gall3.2 ⟨?_, ?_, ?_⟩)
  ·show aE false (cL (V+1) 0) (D+1) a'=true
   rw [gM];exact u1
  ·show aE false (cL (V+1) 0) (D+0) y'=true
   grind [gM]
  ·show cq (cL (V+1) 0) (D+0) _
   grind [gM,Qm,ahe]
theorem UN {m kd:Int} (hm:0<=m): ∀ {l:LT} {i:Nat},(∀x∈l,aO x<=m)->dD kd i l<=m+1:=by
 intro l
 induction l with
 |nil=>intro i _;rw [dD];omega
 |cons x l ih=>
  intro i h
  have h1:=h x (by simp)
  have h2:=ih (i:=i+1) fun y hy=>h y (by simp [hy])
  have h3:=jA kd i
  rw [dD];omega
theorem UQ {m:Int} (hm:0<=m): ∀ {l:LT},(∀x∈l,aO x<=m)->dN l<=m+1:=by
 intro l
 induction l with
 |nil=>intro _;rw [dN];omega
 |cons x l ih=>
  intro h
  have h1:=h x (by simp)
  have h2:=ih fun y hy=>h y (by simp [hy])
  rw [dN];omega
theorem UT {m:Int} (hm:0<=m): ∀ {l:LB},(∀b∈l,∀x∈b.kids,aO x<=m)->dw l<=m+1:=by
 intro l
 induction l with
 |nil=>intro _;rw [dw];omega
 |cons b l ih=>
  intro h
  have h1:=UQ hm (h b (by simp))
  have h2:=ih fun y hy=>h y (by simp [hy])
  obtain ⟨f,ks⟩:=b
  have h1:dN ks<=m+1:=h1
  rw [dw,jy];omega
theorem ln {m kd n:Int} {nm:BA} {r:LC} {ks:LT} {sys:LB} (hm:0<=m) (hk: ∀x∈ks,aO x<=m) (hs: ∀b∈sys,∀x∈b.kids,aO x<=m):aO (.mk kd n nm r ks sys)<=m+1:=by
 have h1:=UN (kd:=kd) (i:=0) hm hk
 have h2:=UT hm hs
 rw [aO];omega
theorem UP: ∀ {l:LT} {x:Tm},x∈l->aO x<=dN l:=by
 intro l
 induction l with
 |nil=>intro x h;cases h
 |cons y l ih=>
  intro x h
  rw [dN]
  rcases eh.1 h with rfl|h
  ·omega
  ·have:=ih h;omega
theorem US: ∀ {l:LB} {b:Br Tm} {x:Tm},b∈l->x∈b.kids->aO x<=dw l:=by
 intro l
 induction l with
 |nil=>intro b x h;cases h
 |cons c l ih=>
  intro b x h hx
  rw [dw]
  rcases eh.1 h with rfl|h
  ·obtain ⟨f,ks⟩:=b
   have:=UP (l:=ks) hx
   rw [jy];omega
  ·have:=ih h hx;omega
theorem Im {t:Tm} {b:Br Tm} {x:Tm} (h:b∈t.sys) (hx:x∈b.kids):aO x<=aO t:=by
 have h1:=US h hx
 have h2:=C7 t
 omega
def Wb (n V D:Int) (t:Tm):Prop:=cq V D t/\aO t<=n
theorem Wb.mono {n m V D:Int} {t:Tm} (h:Wb n V D t) (hn:n<=m):Wb m V D t:=⟨h.1,by have:=h.2;omega⟩
def WB (n kd V D:Int) (l:LB):Prop:=(l.all (aR kd D)=true/\aL false V D kd l=true)/\ ∀b∈l,∀x∈b.kids,aO x<=n
theorem WB.app {n kd V D:Int} {a b:LB} (ha:WB n kd V D a) (hb:WB n kd V D b):WB n kd V D (a++b):=
 ⟨Qk ha.1 hb.1,fun y hy=>(eu.1 hy).elim (ha.2 y) (hb.2 y)⟩
theorem WB.nil {n kd V D:Int}:WB n kd V D []:=⟨H2 (fun y hy=>by cases hy),fun y hy=>by cases hy⟩
theorem WB.of {n kd V D:Int} (hp:fJ kd=1) {l:LB} (h: ∀b∈l,∃z,b.kids=[z]/\cm b.face=true/\bM b.face D=true/\Wb n V (D+aN kd) z):WB n kd V D l:=by
 refine ⟨H2 fun b hb=> ?_,fun b hb x hx=> ?_⟩
 ·obtain ⟨z,q1,q2,q3,q4⟩:=h b hb
  obtain ⟨f,ks⟩:=b
  have q1:ks=[z]:=q1
  subst q1
  exact ⟨rp (by rw [hp];rfl) q2 q3,wM1.2 q4.1⟩
 ·obtain ⟨z,q1,q2,q3,q4⟩:=h b hb
  rw [q1,List.mem_singleton] at hx
  subst hx;exact q4.2
theorem P6 {n V D:Int} (hn:0<=n) {l a:Tm} {sys:LB} (hl:Wb n V D l) (ha:Wb n V D a) (hs:WB n 15 V D sys):Wb (n+1) V D (.mk 15 0 aw [] [l,a] sys):=
 ⟨Qi hl.1 ha.1 hs.1.1 hs.1.2,ln hn (fun x hx=>by
  simp at hx
  rcases hx with rfl|rfl
  ·exact hl.2
  ·exact ha.2) hs.2⟩
theorem P9 {n kd V D:Int} (hn:0<=n) (h:kd=16\/kd=17\/kd=18) {a:Tm} {sys:LB} (ha:Wb n V D a) (hs:WB n kd V D sys):Wb (n+1) V D (.mk kd 0 aw [] [a] sys):=
 ⟨ahd h ha.1 hs.1.1 hs.1.2,ln hn (fun x hx=>by rw [List.mem_singleton] at hx;subst hx;exact ha.2) hs.2⟩
theorem mW {m:Int}: ∀b∈([]:LB),∀x∈b.kids,aO x<=m:=fun b hb=>by cases hb
theorem mO {n kd V D:Int} (hn:0<=n) (h:kd=9\/kd=10) {a:Tm} (ha:Wb n V D a):Wb (n+1) V D (aH kd [a]):=
 ⟨ahb h ha.1,ln hn (fun x hx=>by rw [List.mem_singleton] at hx;subst hx;exact ha.2) mW⟩
theorem w9 {n kd V D:Int} (hn:0<=n) (h:kd=6\/kd=8) {a b:Tm} (ha:Wb n V D a) (hb:Wb n V D b):Wb (n+1) V D (aH kd [a,b]):=
 ⟨Qm h ha.1 hb.1,ln hn (fun x hx=>by
  simp at hx
  rcases hx with rfl|rfl
  ·exact ha.2
  ·exact hb.2) mW⟩
theorem P8 {n V D:Int} (hn:0<=n) {r:LC} {u lo hi:Tm} (hr:dT r=true) (hl:bM r D=true) (h1:Wb n V D u) (h2:Wb n V D lo) (h3:Wb n V D hi):Wb (n+1) V D (tu r u lo hi):=
 ⟨ahc hr hl h1.1 h2.1 h3.1,ln hn (fun x hx=>by
  simp at hx
  rcases hx with rfl|rfl|rfl
  ·exact h1.2
  ·exact h2.2
  ·exact h3.2) mW⟩
theorem agY {n V D:Int} (hn:0<=n) {x:Tm} (h:Wb n V (D+1) x):Wb (n+1) V D (aH 12 [x]):=
 ⟨ag6 h.1,ln hn (fun y hy=>by rw [List.mem_singleton] at hy;subst hy;exact h.2) mW⟩
theorem agZ {n V D:Int} (hn:0<=n) {r:LC} {l a:Tm} (hr:cm r=true) (hlow:bM r D=true) (hl:Wb n V (D+1) l) (ha:Wb n V D a):Wb (n+1) V D (jv r l a):=
 ⟨xa hr hlow hl.1 ha.1,ln hn (fun x hx=>by
  simp at hx
  rcases hx with rfl|rfl
  ·exact hl.2
  ·exact ha.2) mW⟩
theorem ag2 {n V D a b:Int} (ha:0<=a/\a<=1000000000) (hb:0<=b) (hV:0<=V) {t t':Tm} (hf:Fm t) (hs:Wb n V D t) (h:cG a b t= .ok t'):Wb n (V+a) (D+b) t':=
 ⟨xd hf ha hb hV hs.1 h,by rw [uL h];exact hs.2⟩
theorem HX {n V D:Int} {r:LC} {t t':Tm} (hf:Fm t) (hD:0<=D) (hr:RF r) (hl:bM r D=true) (hs:Wb n V (D+1) t) (h:eS 0 r t= .ok t'):Wb n V D t':=
 ⟨xb hf hD hr hl hs.1 h,by have:=C8 h;have:=hs.2;omega⟩
theorem P7 {n V D:Int} {r:LC} {t t':Tm} (hf:Fm t) (hD:0<=D) (hV:0<=V) (hr:RF r) (hl:bM r (D+2)=true) (hs:Wb n V (D+1) t) (h:g_ r t= .ok t'):Wb n V (D+2) t':=by
 refine ⟨H1 hf hD hV hr hl hs.1 h, ?_⟩
 unfold g_ at h
 obtain ⟨m,h1,h⟩:=am h
 have:=yw t h1
 have:=C8 h
 have:=hs.2
 omega
theorem ag0 {n V D:Int} (hn:0<=n) {line a x:Tm} {phi r:LC} {en:Cl} (hl:Fm line) (ha:Fm a) (hp:cm phi=true) (hpo:av phi) (hlow:bM phi D=true) (hen:cH en) (hel:bZ (fun j=>j=0) [en]) (hr:RF r) (hls:bM r (D+2)=true) (hD:0<=D) (hV:0<=V) (s1:Wb n V (D+1) line) (s2:Wb n V D a) (h:lm line phi a en r= .ok x):Wb (n+1) V (D+1) x:=by
 refine ⟨ag7 hl ha hp hpo hlow hen hel hr hls hD hV s1.1 s2.1 h, ?_⟩
 unfold lm at h
 obtain ⟨f1,h1,h⟩:=am h
 obtain ⟨f,h2,h⟩:=am h
 obtain ⟨l,h3,h⟩:=am h
 obtain ⟨a',h4,h⟩:=am h
 injection h with h;subst h
 have b1:=(P7 hl hD hV hr hls s1 h3).2
 have b2:=uL h4
 exact ln hn (fun x hx=>by
  simp at hx
  rcases hx with rfl|rfl
  ·exact b1
  ·rw [b2];exact s2.2) mW
theorem ag1 {n V D:Int} (hn:0<=n) {line a x:Tm} {sys:LB} (hl:Fm line) (hD:0<=D) (hV:0<=V) (s1:Wb n V (D+1) line) (s2:Wb n V D a) (hs:WB n 15 V D sys) (sy: ∀b∈sys,b.kids=[aF b]) (h:jh line a sys= .ok x):Wb (n+2) V D x:=by
 refine ⟨ag9 hl hD hV s1.1 s2.1 hs.1.1 hs.1.2 sy h, ?_⟩
 unfold jh at h
 obtain ⟨l1,e1,h⟩:=am h
 obtain ⟨l,e2,h⟩:=am h
 injection h with h;subst h
 have b1:=C8 e1
 have key: ∀ {r l:LB},(∀x∈r,x∈sys)->j8 line r= .ok l-> ∀b∈l,∀x∈b.kids,aO x<=n+1:=by
  intro r
  induction r with
  |nil=>intro l _ h;rw [j8] at h;injection h with h;subst h;exact mW
  |cons b r ih=>
   intro l hm h
   rw [j8] at h
   obtain ⟨u,q1,h⟩:=am h
   obtain ⟨m,q2,h⟩:=am h
   injection h with h;subst h
   intro y hy x hx
   rcases eh.1 hy with rfl|hy
   ·have hx:x∈[Tm.mk 14 0 aw [⟨1,0⟩] [u,aF b] []]:=hx
    rw [List.mem_singleton] at hx
    subst hx
    have bu:=(P7 hl hD hV BH (KE hD) s1 q1).2
    have bb:=hs.2 b (hm b (by simp)) (aF b) (by rw [sy b (hm b (by simp))];simp)
    exact ln hn (fun x hx=>by
     simp at hx
     rcases hx with rfl|rfl
     ·exact bu
     ·exact bb) mW
   ·exact ih (fun x hx=>hm x (by simp [hx])) q2 y hy x hx
 have b2:aO (aH 14 [line,a])<=n+1:=ln hn (fun x hx=>by
  simp at hx
  rcases hx with rfl|rfl
  ·exact s1.2
  ·exact s2.2) mW
 have:=ln (kd:=15) (n:=0) (nm:=aw) (r:=[]) (ks:=[l1,aH 14 [line,a]]) (sys:=l) (show (0:Int)<=n+1 by omega) (fun x hx=>by
  simp at hx
  rcases hx with rfl|rfl
  ·have:=s1.2;omega
  ·exact b2) (key (fun x hx=>hx) e2)
 omega
theorem E_ {c:Int} {x:Except Int Tm} (hx: ∀e,x= .error e->e≠0) (h:(mM c x).2=0):c=0/\ ∃y,x= .ok y/\(mM c x).1=y:=by
 by_cases hc:c=0
 ·subst hc
  rw [qy] at h ⊢
  cases x with
  |error e=>exact absurd h (hx e rfl)
  |ok y=>exact ⟨rfl,y,rfl,rfl⟩
 ·rw [ti hc] at h;exact absurd h hc
theorem abo:bZ (fun j=>j=0) [⟨0,1⟩]:=lits_one.2 fun j hj=>hj.elim (fun h=>by simp [hp] at h) fun h=>(Da j).1.1 h
theorem aby {D:Int} (hD:2<=D):bM [⟨3,0⟩] D=true:=oP (d:=2) (la ⟨⟨by decide,by decide⟩,by decide,by decide⟩) (by decide) hD
theorem HW {n V D:Int} {x:Tm} (fx:Fm x) (hk:x.kind=16) (h:Wb n V D x):(∀b∈x.sys,cm b.face=true/\bM b.face D=true/\Wb n V D (aF b)/\Wb n V D (k1 b))/\Wb n V D (kg x):=by
 obtain ⟨h1,h2,h3⟩:=Qn h.1
 obtain ⟨hx,_,a,ha,fa⟩:=fx.gl hk
 rw [hk] at h1 h2
 have h4:x.sys.all (aR 16 D)=true:=by
  obtain ⟨kd,n',nm,r,ks,sys⟩:=x
  have hk:kd=16:=hk
  subst hk
  have:(_&&(sys.all (aR 16 D)&&_))=true:=h3
  simp only [af] at this
  exact this.2.1
 have m16:aN 16=0:=rfl
 refine ⟨fun b hb=> ?_, ?_⟩
 ·obtain ⟨p1,p2,p3⟩:=Qo h4 h2 b hb
  rw [m16,eb] at p3
  have q:=(hx b hb).1
  have m0:aF b∈b.kids:=by rw [q];simp
  have m1:k1 b∈b.kids:=by rw [q];simp
  exact ⟨p1,p2,⟨p3 _ m0,by have:=Im hb m0;have:=h.2;omega⟩,⟨p3 _ m1,by have:=Im hb m1;have:=h.2;omega⟩⟩
 ·have hd:kg x=a:=by unfold kg;rw [ha];rfl
  rw [hd]
  rw [ha,gall1] at h1
  have h1:aE false (cL V 0) (D+0) a=true:=h1
  rw [gM,eb] at h1
  refine ⟨h1, ?_⟩
  have:=uK (t:=x) (x:=a) (by rw [ha];simp)
  have:=h.2;omega
theorem P_ {n V D:Int} (hn:0<=n) {T a:Tm} (fT:Fm T) (hT:T.kind=16) (h:Wb n V D T) (ha:Wb n V D a):Wb (n+1) V D (dC a (bY T)):=
 P9 hn (.inr (.inr rfl)) ha (WB.of rfl fun b hb=>by
  obtain ⟨x,hx,rfl⟩:=dA.1 hb
  obtain ⟨p1,p2,_,p4⟩:=(HW fT hT h).1 x hx
  refine ⟨_,rfl,p1,p2, ?_⟩
  rw [show aN 18=0 from rfl,eb];exact p4)
theorem Ie {c D:Int} {f:LC} (h:RX true f) (hD:0<=D) (hl:bM f (D+1)=true) (h0:(fK c f).2=0):c=0/\cm (fK c f).1=true/\bM (fK c f).1 D=true:=by
 unfold fK at h0 ⊢
 by_cases hc:c=0
 case neg=>rw [if_neg hc] at h0;exact absurd h0 hc
 rw [if_pos hc] at h0 ⊢
 refine ⟨hc, ?_⟩
 obtain ⟨_,a1,a2⟩:=CX h
 have ok:=(tV (g5 a1) uni_q.1 uni_q.1 (by have:=uni_q.2;omega) (by have:=uni_q.2;omega)).ok
 cases hx:bX 0 [] (jv (jx f).1 dF dF) with
 |error e=>
  rw [hx] at h0
  have:=w6 e hx
  have:e=0:=h0
  omega
 |ok y=>
  obtain ⟨ft,hy⟩:=tY ok hx
  have fy:=HH ft hy
  have ky:y.kind=14:=wZ hy
  have s:cq 0 (D+1) (jv (jx f).1 dF dF):=xa (RFa.right ⟨a1.1,a1.2 rfl⟩) ((jL a1.1).2 (a2 _ ((jL h.1).1 hl))) Qr Qr
  have sy:=xb ft hD jq (qx hD) s hy
  obtain ⟨l,a,hkd⟩:=t6 (sn fy ky (n:=2) rfl)
  obtain ⟨q1,q2,_⟩:=Qh sy ky hkd
  exact ⟨q1,q2⟩
theorem PG {D:Int} (hD:0<=D): ∀ {l:LB} {c:Int},(∀b∈l,RX true b.face/\bM b.face (D+1)=true)->(ej c l).2=0->c=0/\ ∀b∈(ej c l).1,∃x∈l,b.kids=x.kids/\cm b.face=true/\bM b.face D=true:=by
 intro l
 induction l with
 |nil=>intro c _ h;exact ⟨h,fun b hb=>by cases hb⟩
 |cons x l ih=>
  intro c hx h
  rw [ej] at h ⊢
  obtain ⟨r1,r2⟩:=hx x (by simp)
  by_cases h0:(fK c x.face).1.length=0
  ·rw [if_pos h0] at h ⊢
   obtain ⟨i1,i2⟩:=ih (fun b hb=>hx b (by simp [hb])) h
   obtain ⟨hc,_⟩:=Ie r1 hD r2 i1
   exact ⟨hc,fun b hb=>by obtain ⟨y,hy,q⟩:=i2 b hb;exact ⟨y,by simp [hy],q⟩⟩
  ·rw [if_neg h0] at h ⊢
   obtain ⟨i1,i2⟩:=ih (fun b hb=>hx b (by simp [hb])) h
   obtain ⟨hc,q1,q2⟩:=Ie r1 hD r2 i1
   refine ⟨hc,fun b hb=> ?_⟩
   rcases eh.1 hb with rfl|hb
   ·exact ⟨x,by simp,rfl,q1,q2⟩
   ·obtain ⟨y,hy,q⟩:=i2 b hb;exact ⟨y,by simp [hy],q⟩
section
variable {phi:LC} {V D n:Int}
theorem HY {F:Int->Tm×Int} (h1:cm phi=true) (h2:bM phi D=true) (hF: ∀c,(F c).2=0->c=0/\Wb n V (D+1) (F c).1) {c:Int} (h:(d4 phi F c).2=0):c=0/\WB n 15 V D (d4 phi F c).1:=by
 unfold d4 at h ⊢
 split at h
 ·rename_i hl
  rw [if_pos hl]
  exact ⟨h,WB.nil⟩
 ·rename_i hl
  rw [if_neg hl]
  obtain ⟨q1,q2⟩:=hF c h
  exact ⟨q1,WB.of rfl fun b hb=>by
   rw [List.mem_singleton] at hb;subst hb
   exact ⟨_,rfl,h1,h2,q2⟩⟩
theorem ph {a b c:Int} (ha:0<=a/\a<=1000) (hb:0<=b/\b<=1000) (hV:0<=V) {t:Tm} (ot:OkT t) (s:Wb n V D t) (h:(mM c (cJ a b t)).2=0):c=0/\Fm t/\Fm (mM c (cJ a b t)).1/\Wb n (V+a) (D+b) (mM c (cJ a b t)).1:=by
 obtain ⟨hc,y,hy,e⟩:=jp mN h
 obtain ⟨f,hu⟩:=qX ot hy
 rw [e]
 exact ⟨hc,f,lh (by omega) f hu,ag2 (by omega) (by omega) hV f s hu⟩
theorem aeg (hn:0<=n) {a:Tm} (fa:Fm a) (hp:RX true phi) (h1:cm phi=true) (h2:bM phi D=true) (hD:0<=D) (hV:0<=V) (sa:Wb n V D a) {st:LB} (hs: ∀b∈st,iE b/\cm b.face=true/\bM b.face D=true/\Wb n V (D+1) (aF b)/\Wb n V (D+1) (k1 b)) {c:Int} (h:(cD (mG phi a) c st).2=0):c=0/\WB (n+2) 15 V D (cD (mG phi a) c st).1:=by
 have en: ∀b:Br Tm,∀e,g9 (aF b) phi a ⟨0,1⟩ [⟨3,0⟩]= .error e->e≠0:=fun b e h=>CY h
 have hF: ∀c x,(mG phi a c x).2=0->c=0:=fun c x h=>(E_ (en x) h).1
 obtain ⟨hc,hx⟩:=pU hF h
 refine ⟨hc, ?_⟩
 rw [zZ hF h]
 refine WB.of rfl fun b hb=> ?_
 obtain ⟨x,hxm,rfl⟩:=dA.1 hb
 obtain ⟨⟨q1,q2,q3,q4,q5⟩,p1,p2,p3,p4⟩:=hs x hxm
 obtain ⟨_,y,hy,e⟩:=E_ (en x) (hx x hxm).1
 obtain ⟨_,_,_,hto,_⟩:=UD hy
 have w:=ag0 hn q2 fa h1 hp.1.2 h2 L_ abo BI (aby (by omega)) hD hV p3 sa hto
 refine ⟨_,rfl,p1,p2, ?_⟩
 rw [show aN 15=1 from rfl,e]
 have:=w9 (kd:=6) (n:=n+1) (by omega) (.inl rfl) (mO hn (.inl rfl) p4) w
 exact ⟨this.1,by have:=this.2;omega⟩
def xm (n V D:Int) (b:Br Tm):Prop:=iE b/\cm b.face=true/\bM b.face D=true/\Wb n V (D+1) (aF b)/\Wb n V (D+1) (k1 b)
theorem U3 (hk:F3 k) (hn:0<=n) {g a:Tm} (fg:Fm g) (hg:g.kind=16) (fa:Fm a) (hp:RX true phi) (h1:cm phi=true) (h2:bM phi D=true) (hD:0<=D) (hV:0<=V) (sg:Wb n V (D+1) g) (sa:Wb n V D a) (h:(jz g phi a).c=0):
  Fm (jz g phi a).a1/\Wb (n+4) V D (jz g phi a).a1/\ ∀b∈(jz g phi a).st,xm n V D b:=by
 obtain ⟨fB,sB,lB⟩:=yx hk fg hg fa hp
 obtain ⟨hx,_,b0,hb0,fb0⟩:=fg.gl hg
 obtain ⟨g1,g2⟩:=HW fg hg sg
 have h:(jf g phi a (dC a (bY (mM 0 (bX 0 [] g)).1)) (ej (mM 0 (bX 0 [] g)).2 g.sys).1 (ej (mM 0 (bX 0 [] g)).2 g.sys).2).2=0:=h
 have hst:(jz g phi a).st=(ej (mM 0 (bX 0 [] g)).2 g.sys).1:=rfl
 have ha1:(jz g phi a).a1=(jf g phi a (dC a (bY (mM 0 (bX 0 [] g)).1)) (ej (mM 0 (bX 0 [] g)).2 g.sys).1 (ej (mM 0 (bX 0 [] g)).2 g.sys).2).1:=rfl
 rw [hst] at sB lB ⊢
 rw [ha1] at fB ⊢
 have gT:GN (mM 0 (bX 0 [] g)).1:=si fg hg jq (qx (by decide))
 have o0:=(gT.un fa).1.ok
 have i0:=(gT.un fa).1.isIn hk (by omega)
 have hin:=C9 hk fa o0 hp sB lB (ej (mM 0 (bX 0 [] g)).2 g.sys).2
 unfold jf at h fB ⊢
 obtain ⟨hc,y,hy,e⟩:=jp (fun e h=>BW (fun e h=>IF h) h) h
 obtain ⟨so,fy,hcomp⟩:=qV hy
 have fb:=wV (a:=kg g) (b:=dC a (bY (mM 0 (bX 0 [] g)).1)) (by unfold kg;rw [hb0];exact fb0.ok) o0 hin.1 so
 have hs2:(ej (mM 0 (bX 0 [] g)).2 g.sys).2=0/\WB (n+2) 15 V D (mX phi a (dC a (bY (mM 0 (bX 0 [] g)).1)) (ej (mM 0 (bX 0 [] g)).2 g.sys).1 (ej (mM 0 (bX 0 [] g)).2 g.sys).2).1/\ ∀b∈(ej (mM 0 (bX 0 [] g)).2 g.sys).1,xm n V D b:=by
  have hw0:(d4 phi (fun c=>mM c (cJ 0 1 (dC a (bY (mM 0 (bX 0 [] g)).1)))) (ej (mM 0 (bX 0 [] g)).2 g.sys).2).2=0:=(pU (F:=mG phi a) (fun c x h=>(E_ (x:=g9 (aF x) phi a ⟨0,1⟩ [⟨3,0⟩]) (fun e h=>CY h) h).1) hc).1
  have hsc0:(ej (mM 0 (bX 0 [] g)).2 g.sys).2=0:=by
   unfold d4 at hw0
   split at hw0
   ·exact hw0
   ·exact (jp mN hw0).1
  obtain ⟨hT0,hst⟩:=PG hD (fun b hb=>⟨(hx b hb).2.2.2,(g1 b hb).2.1⟩) hsc0
  have hsw: ∀b∈(ej (mM 0 (bX 0 [] g)).2 g.sys).1,xm n V D b:=fun b hb=>by
   obtain ⟨x,hxm,q1,q2,q3⟩:=hst b hb
   obtain ⟨_,_,p3,p4⟩:=g1 x hxm
   have e0:aF b=aF x:=by unfold aF;rw [q1]
   have e1:k1 b=k1 x:=by unfold k1;rw [q1]
   exact ⟨sB b hb,q2,q3,by rw [e0];exact p3,by rw [e1];exact p4⟩
  obtain ⟨_,T,hT,eT⟩:=jp (c:=0) w6 hT0
  obtain ⟨_,hT⟩:=tY fg.ok hT
  have fT:=HH fg hT
  have kT:T.kind=16:=(wZ hT).trans hg
  have sT:=HX fg hD jq (qx hD) sg hT
  have s0:Wb (n+1) V D (dC a (bY (mM 0 (bX 0 [] g)).1)):=by rw [eT];exact P_ hn fT kT sT sa
  have hw:=(HY (n:=n+2) (V:=V) h1 h2 (fun c h=>by
   obtain ⟨q1,_,_,q4⟩:=ph (a:=0) (b:=1) (by omega) (by omega) hV o0 s0 h
   rw [eb] at q4
   exact ⟨q1,q4.mono (by omega)⟩) hw0).2
  exact ⟨hsc0,hw.app (aeg hn fa hp h1 h2 hD hV sa hsw hc).2,hsw⟩
 obtain ⟨hsc0,hWB,hsw⟩:=hs2
 rw [e]
 refine ⟨⟨(Dp hk fb.1 fb.2.1 (pm fb.2.2) hcomp).1.1,fy⟩, ?_,hsw⟩
 have hT0:=(PG hD (fun b hb=>⟨(hx b hb).2.2.2,(g1 b hb).2.1⟩) hsc0).1
 obtain ⟨_,T,hT,eT⟩:=jp (c:=0) w6 hT0
 obtain ⟨_,hT⟩:=tY fg.ok hT
 have s0:Wb (n+1) V D (dC a (bY (mM 0 (bX 0 [] g)).1)):=by rw [eT];exact P_ hn (HH fg hT) ((wZ hT).trans hg) (HX fg hD jq (qx hD) sg hT) sa
 have:=ag1 (n:=n+2) (by omega) fb.1 hD hV (g2.mono (by omega)) (s0.mono (by omega)) hWB (fun b hb=>((pm fb.2.2).kid b hb).1) hcomp
 exact ⟨this.1,by have:=this.2;omega⟩
end
section
variable {phi:LC} {V D n:Int}
theorem Mh (hn:0<=n) (hV:0<=V) (hD:0<=D) {a1 cen x:Tm} {c:Int} (o1:OkT a1) (o2:OkT cen) (o3:OkT x) (s1:Wb (n+4) V D a1) (s2:Wb (n+5) V D cen) (s3:Wb (n+1) V D x) (h:(ij a1 cen x c).2=0):c=0/\Wb (n+8) V (D+1) (ij a1 cen x c).1:=by
 have h:(mM (mM (mM c (cJ 0 1 cen)).2 (cJ 0 1 x)).2 (cJ 0 2 a1)).2=0:=h
 obtain ⟨h2,_,_,z⟩:=ph (by omega) (by omega) hV o1 s1 h
 obtain ⟨h3,_,_,w⟩:=ph (by omega) (by omega) hV o3 s3 h2
 obtain ⟨h4,_,_,u⟩:=ph (by omega) (by omega) hV o2 s2 h3
 rw [eb] at z w u
 refine ⟨h4, ?_⟩
 rw [show D+2=D+1+1 by omega] at z
 have z12:=agY (by omega) z
 have pr:=w9 (kd:=8) (n:=n+5) (by omega) (.inr rfl) (w.mono (by omega)) (z12.mono (by omega))
 have u10:=mO (kd:=10) (by omega) (.inr rfl) u
 have u9:=mO (kd:=9) (by omega) (.inl rfl) u
 have a6:=w9 (kd:=6) (n:=n+6) (by omega) (.inl rfl) (u10.mono (by omega)) (pr.mono (by omega))
 have:=P8 (n:=n+7) (r:=[⟨1,0⟩]) (by omega) (by decide) (E6 (by omega)) (a6.mono (by omega)) (u9.mono (by omega)) (pr.mono (by omega))
 exact this.mono (by omega)
theorem FB {a1 cen x:Tm} {c:Int} (h:(ij a1 cen x c).2=0):c=0:=by
 have h:(mM (mM (mM c (cJ 0 1 cen)).2 (cJ 0 1 x)).2 (cJ 0 2 a1)).2=0:=h
 exact (jp mN (jp mN (jp mN h).1).1).1
theorem Er {a a1 t1 t e:Tm} {st:LB} {c:Int} (h:(p6 phi a a1 t1 st t e c).2=0):c=0/\(mM c (dK [t,t1,aH 9 [e],a1] (gJ t t1 (aH 9 [e]) a1))).2=0:=by
 have h:(cD (mo phi a a1 (hX e a1)) (d4 phi (ij a1 (hX e a1) a) (mM c (dK [t,t1,aH 9 [e],a1] (gJ t t1 (aH 9 [e]) a1))).2).2 st).2=0:=h
 have h1:=(pU (F:=mo phi a a1 (hX e a1)) (fun c x h=>FB (x:=jv phi (aF x) a) h) h).1
 have h2:(mM c (dK [t,t1,aH 9 [e],a1] (gJ t t1 (aH 9 [e]) a1))).2=0:=by
  unfold d4 at h1
  split at h1
  ·exact h1
  ·exact FB h1
 exact ⟨(jp (fun e h=>BW (fun e h=>Ef h) h) h2).1,h2⟩
theorem XW (hn:0<=n) {a a1 t1 t e:Tm} (fa:Fm a) (f1:Fm a1) (ot1:OkT t1) (ft:Fm t) (fe:Fm e) (hp:RX true phi) (h1:cm phi=true) (h2:bM phi D=true) (hD:0<=D) (hV:0<=V) (sa:Wb n V D a) (s1:Wb (n+4) V D a1) (st1:Wb n V D t1) (st:Wb n V D t) (se:Wb n V D e) {l:LB} (hs: ∀b∈l,xm n V D b) {c:Int} (h:(p6 phi a a1 t1 l t e c).2=0):c=0/\Wb (n+9) V D (p6 phi a a1 t1 l t e c).1:=by
 obtain ⟨hc,hf0⟩:=Er h
 refine ⟨hc, ?_⟩
 have o9:=(l7 (kd:=9) (by omega) (FN.sm (.inl fe)) (by omega)).1.ok
 have ocen:=(yI (.inl fe) (.inl f1)).1.ok
 obtain ⟨_,y,hy,ey⟩:=jp (fun e h=>BW (fun e h=>Ef h) h) hf0
 obtain ⟨so,fy,hfib⟩:=qV hy
 have hfm:=pc (l:=[t,t1,aH 9 [e],a1]) (fun x hx=>by
  simp at hx
  rcases hx with rfl|rfl|rfl|rfl
  ·exact ft.ok
  ·exact ot1
  ·exact o9
  ·exact f1.ok) so
 have e9:=mO (kd:=9) hn (.inl rfl) se
 have e10:=mO (kd:=10) hn (.inr rfl) se
 have sf:Wb (n+4) V D y:=by
  refine ⟨aha (hfm t1 (by simp)) (hfm _ (by simp)) f1 hV st.1 st1.1 e9.1 s1.1 hfib, ?_⟩
  rw [UW hfib]
  have:=st.2;have:=st1.2;have:=s1.2;have:=e9.2;omega
 have sc:Wb (n+5) V D (hX e a1):=by
  have:=w9 (kd:=6) (n:=n+4) (by omega) (.inl rfl) (e10.mono (by omega)) s1
  exact ⟨this.1,by have:=this.2;unfold hX;omega⟩
 have c9:=mO (kd:=9) (by omega) (.inl rfl) sc
 have he:(cD (mo phi a a1 (hX e a1)) (d4 phi (ij a1 (hX e a1) a) (mM c (dK [t,t1,aH 9 [e],a1] (gJ t t1 (aH 9 [e]) a1))).2).2 l).2=0:=h
 have hF: ∀c x,(mo phi a a1 (hX e a1) c x).2=0->c=0:=fun c x h=>FB h
 obtain ⟨hw0,hx⟩:=pU hF he
 have hw:=(HY (n:=n+8) (V:=V) h1 h2 (fun c h=>Mh hn hV hD f1.ok ocen fa.ok s1 sc (sa.mono (by omega)) h) hw0).2
 have hb:WB (n+8) 15 V D (cD (mo phi a a1 (hX e a1)) (d4 phi (ij a1 (hX e a1) a) (mM c (dK [t,t1,aH 9 [e],a1] (gJ t t1 (aH 9 [e]) a1))).2).2 l).1:=by
  rw [zZ hF he]
  refine WB.of rfl fun b hb=> ?_
  obtain ⟨x,hxm,rfl⟩:=dA.1 hb
  obtain ⟨⟨q1,q2,q3,q4,q5⟩,p1,p2,p3,p4⟩:=hs x hxm
  have o14:=(tV (g5 hp) q2.sm fa.sm (by have:=q2.dep;omega) (by have:=fa.dep;omega)).ok
  have:=(Mh hn hV hD f1.ok ocen o14 s1 sc (agZ hn h1 h2 p3 sa) (hx x hxm).1).2
  exact ⟨_,rfl,p1,p2,this⟩
 have:=P6 (n:=n+8) (by omega) (sf.mono (by omega)) (c9.mono (by omega)) (hw.app hb)
 rw [<-ey] at this
 exact this.mono (by omega)
theorem X7 (hn:0<=n) (hV:0<=V) (hD:0<=D) {a1:Tm} {q:Br Tm×Tm} {c:Int} (o1:OkT a1) (ow:OkT q.2) (oe:OkT (k1 q.1)) (s1:Wb (n+4) V D a1) (sw:Wb (n+9) V D q.2) (se:Wb n V D (k1 q.1)) (h:(iv a1 c q).2=0):c=0/\ ∃z,(iv a1 c q).1.kids=[z]/\(iv a1 c q).1.face=q.1.face/\Wb (n+12) V (D+1) z:=by
 have h:(mM (mM (mM c (cJ 0 1 q.2)).2 (cJ 0 1 a1)).2 (cJ 0 1 (k1 q.1))).2=0:=h
 obtain ⟨h2,_,_,e⟩:=ph (by omega) (by omega) hV oe se h
 obtain ⟨h3,_,_,lo⟩:=ph (by omega) (by omega) hV o1 s1 h2
 obtain ⟨h4,_,_,x⟩:=ph (by omega) (by omega) hV ow sw h3
 rw [eb] at e lo x
 refine ⟨h4,_,rfl,rfl, ?_⟩
 have x10:=mO (kd:=10) (by omega) (.inr rfl) x
 have x9:=mO (kd:=9) (by omega) (.inl rfl) x
 have e9:=mO (kd:=9) hn (.inl rfl) e
 have a6:=w9 (kd:=6) (n:=n+10) (by omega) (.inl rfl) (e9.mono (by omega)) (x9.mono (by omega))
 have:=P8 (n:=n+11) (r:=[⟨1,0⟩]) (by omega) (by decide) (E6 (by omega)) (x10.mono (by omega)) (lo.mono (by omega)) (a6.mono (by omega))
 exact ⟨this.1,by have:=this.2;omega⟩
theorem Jy {a1:Tm} {q:Br Tm×Tm} {c:Int} (h:(iv a1 c q).2=0):c=0:=by
 have h:(mM (mM (mM c (cJ 0 1 q.2)).2 (cJ 0 1 a1)).2 (cJ 0 1 (k1 q.1))).2=0:=h
 exact (jp mN (jp mN (jp mN h).1).1).1
end
theorem ahy: ∀ {l:LB} {w:LT},w.length=l.length->((l.zip w).map qG).map (·.face)=l.map (·.face):=by
 intro l
 induction l with
 |nil=>intro w _;rw [List.zip_nil_left];rfl
 |cons x l ih=>
  intro w h
  cases w with
  |nil=>simp at h
  |cons y w=>rw [List.zip_cons_cons,iG,iG,iG,ih (by simpa using h)];rfl
theorem Yq (hk:F3 k) {phi:LC} {V D n:Int} (hn:0<=n) {g a:Tm} (fg:Fm g) (hg:g.kind=16) (fa:Fm a) (hp:RX true phi) (h1:cm phi=true) (h2:bM phi D=true) (hD:0<=D) (hV:0<=V) (sg:Wb n V (D+1) g) (sa:Wb n V D a) (h:(d7 phi g a).2=0):
  Wb (n+14) V D (d7 phi g a).1/\(d7 phi g a).1.kind=17/\(∃z,(d7 phi g a).1.kids=[z]/\z.kind=15)/\ ∃G,eS 0 [⟨0,0⟩] g= .ok G/\(d7 phi g a).1.sys.map (·.face)=G.sys.map (·.face):=by
 obtain ⟨fB,sB,lB⟩:=yx hk fg hg fa hp
 have bs:=fun hc=>U3 hk hn fg hg fa hp h1 h2 hD hV sg sa hc
 unfold d7 at h ⊢
 dsimp only at h ⊢
 generalize jz g phi a=B at fB sB lB bs h ⊢
 obtain ⟨st,a1,c0⟩:=B
 dsimp only at fB sB lB bs h ⊢
 have gG:GN (mM c0 (bX 0 [⟨0,0⟩] g)).1:=si fg hg lV (vT (by decide))
 obtain ⟨hw0,hz⟩:=pU (F:=iv a1) (fun c q h=>Jy h) h
 have hws0:(cD (gN phi a a1 (eQ (mM c0 (bX 0 [⟨0,0⟩] g)).1.kids) st) (mM c0 (bX 0 [⟨0,0⟩] g)).2 (mM c0 (bX 0 [⟨0,0⟩] g)).1.sys).2=0:=by
  unfold d4 at hw0
  split at hw0
  ·exact hw0
  ·exact (jp mN hw0).1
 obtain ⟨hG0,hx⟩:=pU (F:=gN phi a a1 (eQ (mM c0 (bX 0 [⟨0,0⟩] g)).1.kids) st) (fun c b h=>(Er h).1) hws0
 obtain ⟨hc0,G,hG,eG⟩:=jp w6 hG0
 obtain ⟨f1,s1,hst⟩:=bs hc0
 obtain ⟨_,hG⟩:=tY fg.ok hG
 have fG:=PM fg hG
 have kG:G.kind=16:=(wZ hG).trans hg
 have sG:=HX fg hD lV (vT hD) sg hG
 obtain ⟨gb,gk⟩:=HW fG kG sG
 obtain ⟨hgx,_,t1,ht1,ft1⟩:=fG.gl kG
 have h1k:eQ G.kids=t1:=by rw [ht1];rfl
 have hd:kg G=t1:=by unfold kg;rw [ht1];rfl
 rw [hd] at gk
 have hweq:=zZ (F:=gN phi a a1 (eQ (mM c0 (bX 0 [⟨0,0⟩] g)).1.kids) st) (fun c b h=>(Er h).1) hws0
 have hwl:(cD (gN phi a a1 (eQ (mM c0 (bX 0 [⟨0,0⟩] g)).1.kids) st) (mM c0 (bX 0 [⟨0,0⟩] g)).2 (mM c0 (bX 0 [⟨0,0⟩] g)).1.sys).1.length=(mM c0 (bX 0 [⟨0,0⟩] g)).1.sys.length:=oq
 have hsm:=H4 (phi:=phi) (st:=st) (a1:=a1) (t1:=eQ (mM c0 (bX 0 [⟨0,0⟩] g)).1.kids) (c:=(mM c0 (bX 0 [⟨0,0⟩] g)).2) hk fa fB (Ar gG).1 hp sB lB (Ar gG).2.1
 have hsw: ∀w∈(cD (gN phi a a1 (eQ (mM c0 (bX 0 [⟨0,0⟩] g)).1.kids) st) (mM c0 (bX 0 [⟨0,0⟩] g)).2 (mM c0 (bX 0 [⟨0,0⟩] g)).1.sys).1,Wb (n+9) V D w:=fun w hw=>by
  rw [hweq] at hw
  obtain ⟨b,hb,rfl⟩:=dA.1 hw
  have:=(hx b hb).1
  rw [eG] at hb
  rw [eG,h1k] at this ⊢
  obtain ⟨_,p2,p3,_⟩:=hgx b hb
  obtain ⟨_,_,q3,q4⟩:=gb b hb
  exact (XW hn fa f1 ft1.ok p2 p3 hp h1 h2 hD hV sa s1 gk q3 q4 hst this).2
 generalize cD (gN phi a a1 (eQ (mM c0 (bX 0 [⟨0,0⟩] g)).1.kids) st) (mM c0 (bX 0 [⟨0,0⟩] g)).2 (mM c0 (bX 0 [⟨0,0⟩] g)).1.sys=ws at hwl hsm hsw h hw0 hz ⊢
 rw [eG] at hwl h hz ⊢
 rw [h1k]
 have hW:=(HY (n:=n+12) (V:=V) h1 h2 (fun c h=>by
  obtain ⟨q1,_,_,q4⟩:=ph (a:=0) (b:=1) (by omega) (by omega) hV f1.ok s1 h
  rw [eb] at q4
  exact ⟨q1,q4.mono (by omega)⟩) hw0).2
 have hzip: ∀q∈G.sys.zip ws.1,q.1∈G.sys/\q.2∈ws.1:=fun q hq=>⟨(List.of_mem_zip hq).1,(List.of_mem_zip hq).2⟩
 have hZ:WB (n+12) 15 V D (cD (iv a1) (d4 phi (fun c=>mM c (cJ 0 1 a1)) ws.2).2 (G.sys.zip ws.1)).1:=by
  rw [zZ (F:=iv a1) (fun c q h=>Jy h) h]
  refine WB.of rfl fun b hb=> ?_
  obtain ⟨q,hq,rfl⟩:=dA.1 hb
  obtain ⟨m1,m2⟩:=hzip q hq
  obtain ⟨p1,p2,_,p4⟩:=gb q.1 m1
  obtain ⟨_,z,z1,z2,z3⟩:=X7 hn hV hD f1.ok (hsm q.2 m2).1.ok (hgx q.1 m1).2.2.1.ok s1 (hsw q.2 m2) p4 (hz q hq).1
  exact ⟨z,z1,by rw [z2];exact p1,by rw [z2];exact p2,z3⟩
 have hP:WB (n+13) 17 V D ((G.sys.zip ws.1).map qG):=by
  refine WB.of rfl fun b hb=> ?_
  obtain ⟨q,hq,rfl⟩:=dA.1 hb
  obtain ⟨m1,m2⟩:=hzip q hq
  obtain ⟨p1,p2,_,_⟩:=gb q.1 m1
  refine ⟨_,rfl,p1,p2, ?_⟩
  rw [show aN 17=0 from rfl,eb]
  exact (mO (n:=n+9) (by omega) (.inl rfl) (hsw q.2 m2)).mono (by omega)
 refine ⟨?_,rfl,⟨_,rfl,rfl⟩,G,hG,ahy hwl⟩
 have h15:=P6 (n:=n+12) (by omega) (gk.mono (by omega)) (s1.mono (by omega)) (hW.app hZ)
 exact (P9 (n:=n+13) (by omega) (.inr (.inl rfl)) (h15.mono (by omega)) hP).mono (by omega)

section
variable {t g b a:Tm}
theorem YH (fg:Fm g) (hg:g.kind=16): ∀ {l l':LB},(∀b∈l,b.kids=[aF b]/\Fm (aF b)/\RX true b.face)->ig (bY g) l= .ok l'->gO 50000 l'/\l'.length=l.length:=by
 intro l
 induction l with
 |nil=>grind [ig,pK]
 |cons x l ih=>
  intro l' hx h
  rw [ig] at h
  obtain ⟨u,g1,h⟩:=am h
  obtain ⟨m,g2,h⟩:=am h
  injection h with h;subst h
  obtain ⟨i1,i2⟩:=ih (fun b hb=>hx b (by simp [hb])) g2
  obtain ⟨q1,q2,q3⟩:=hx x (by simp)
  have:=GP (u:=u) (.inl (lh (by omega) (Ae fg hg) g1)) q2
  grind [rq,g5]
theorem YJ (hk:F3 k) (ft:Fm t) (fb:Fm b): ∀ {l l':LB},(∀b∈l,b.kids=[aF b,k1 b]/\Fm (aF b)/\Fm (k1 b)/\RX true b.face)->iz b t.sys l= .ok l'->gO 500000 l'/\l'.length=l.length:=by
 intro l
 induction l with
 |nil=>grind [iz,pK]
 |cons x l ih=>
  intro l' hx h
  rw [iz] at h
  obtain ⟨f,g1,h⟩:=am h
  obtain ⟨w,g2,h⟩:=am h
  obtain ⟨m,g3,h⟩:=am h
  injection h with h;subst h
  obtain ⟨i1,i2⟩:=ih (fun b hb=>hx b (by simp [hb])) g3
  obtain ⟨q1,q2,q3,q4⟩:=hx x (by simp)
  have ff:=lh (by omega) q3 g1
  obtain ⟨so,fw',hfe⟩:=qV g2
  have hwx:=B9 hk ft
  have fw:Fm w:=⟨(Eh hk q2 fb (pm (wV q2.ok fb.ok hwx.1 so).2.2) hfe).1.1,fw'⟩
  have q9:=tW (kd:=9) (by omega) (n:=20000) (ks:=[f]) (fun x hx=>by simp at hx;subst hx;exact ⟨ff.sm,by have:=ff.dep;omega⟩) (by simp)
  have q6:=tW (kd:=6) (by omega) (n:=80001) (ks:=[aH 9 [f],w]) (fun x hx=>by
   simp at hx
   rcases hx with rfl|rfl
   ·refine ⟨q9.1, ?_⟩
    unfold aH;rw [ap,bj,bj,bB];have:=ff.dep;omega
   ·exact ⟨fw.sm.mono (by omega),by have:=fw.dep;omega⟩) (by simp)
  exact ⟨rq (g5 q4) (q6.1.mono (by omega)) (by omega) i1,by grind⟩
end
theorem abK (hk:F3 k) {t y:Tm} (ft:Fm t) (h15:t.kind=15) (h16:(t.kids.getD 0 noT).kind=16) (h:oQ t= .ok y):In k y/\y.kind=17:=by
 obtain ⟨g,b,hkd⟩:=t6 (sn ft h15 (n:=2) rfl)
 obtain ⟨d0,d1⟩:=r_ hkd
 have fg:Fm g:=ft.kid (by grind)
 have fb:Fm b:=ft.kid (by grind)
 obtain ⟨sy,syl⟩:=ft.sy h15
 rw [d0] at h16
 obtain ⟨hx,hl,a,hak,fa⟩:=fg.gl h16
 unfold oQ at h
 rw [d0,d1] at h
 obtain ⟨l1,e1,h⟩:=am h
 obtain ⟨l2,e2,h⟩:=am h
 injection h with h;subst h
 obtain ⟨b1,n1⟩:=YH fg h16 sy e1
 obtain ⟨b2,n2⟩:=YJ hk ft fb hx e2
 exact ⟨LQ hk ft fg h16 (by grind) fa fb b1 (by omega) b2 (by omega),rfl⟩
set_option maxRecDepth 100000
theorem ahf {S:Type} (q:Nat) (J:Bool->OS S):zz (q+400) J=J true:=by kernel_rfl
theorem afk (hk:F3 k) (J:Bool->OS S):zz k J=J true:=by
 have hk:4294968296<=k:=hk
 obtain ⟨q,rfl⟩: ∃q,k=q+400:=⟨k-400,by omega⟩
 exact ahf q J
set_option maxRecDepth 20000
section
variable {hd:Tm->(Int->OS S)->OS S} {t:Tm}
abbrev qY (hd:Tm->(Int->OS S)->OS S) (y:Tm):Prop:= ∀g,hd y g=g (fM y)
theorem Ir (b:Br Tm) (l:LB):gS (b::l)=iH b.kids+gS l:=by cases b;rw [gS,yA]
end
theorem Vd {kd D E:Int} (h:D<=E): ∀ {l:LB},bk l->l.all (aR kd D)=true->l.all (aR kd E)=true:=by
 intro l
 induction l with
 |nil=>intro _ _;rfl
 |cons b l ih=>
  intro ho hb
  obtain ⟨f,ks⟩:=b
  rw [bk,g7] at ho
  rw [fq,af] at hb ⊢
  refine ⟨?_,ih ho.2 hb.2⟩
  have h1:=hb.1
  unfold aR at h1 ⊢
  simp only [af,decide_eq_true_eq] at h1 ⊢
  exact ⟨h1.1,h1.2.1,oP ((kB ho.1.1.1).1 h1.2.1).1 h1.2.2 h⟩
theorem afs (t:Tm):OkT t-> ∀ {V D E:Int},aE false V D t=true->D<=E->aE false (-1) E t=true:=by
 induction t using ik with
 |h kd n nm r ks sys ih1 ih2=>
  intro ht V D E h hDE
  rw [OkT] at ht
  obtain ⟨o1,o2,o3,o4,o5,o6,o7⟩:=ht.1
  have hk: ∀ {l:LT} {i:Nat},(∀x∈l,OkT x-> ∀ {V D E:Int},aE false V D x=true->D<=E->aE false (-1) E x=true)->aK l->bK false V D kd i l=true->bK false (-1) E kd i l=true:=by
   intro l
   induction l with
   |nil=>intro i _ _ _;rw [bK]
   |cons t l ih=>
    intro i h hl ha
    rw [aK] at hl
    rw [bK,af] at ha ⊢
    rw [HT]
    exact ⟨h t (by simp) hl.1 ha.1 (by omega),ih (fun x hx=>h x (by simp [hx])) hl.2 ha.2⟩
  have hm: ∀ {l:LT},(∀x∈l,OkT x-> ∀ {V D E:Int},aE false V D x=true->D<=E->aE false (-1) E x=true)->aK l->dn false V D kd l=true->dn false (-1) E kd l=true:=by
   intro l
   induction l with
   |nil=>intro _ _ _;rw [dn]
   |cons t l ih=>
    intro h hl ha
    rw [aK] at hl
    rw [dn,af] at ha ⊢
    exact ⟨h t (by simp) hl.1 ha.1 (by omega),ih (fun x hx=>h x (by simp [hx])) hl.2 ha.2⟩
  have hs: ∀ {l:LB},(∀b∈l,∀x∈b.kids,OkT x-> ∀ {V D E:Int},aE false V D x=true->D<=E->aE false (-1) E x=true)->bk l->aL false V D kd l=true->aL false (-1) E kd l=true:=by
   intro l
   induction l with
   |nil=>intro _ _ _;rw [aL]
   |cons b l ih=>
    intro h hl ha
    obtain ⟨f,ks'⟩:=b
    rw [bk,g7] at hl
    rw [aL,g8,af] at ha ⊢
    exact ⟨hm (l:=ks') (h ⟨f,ks'⟩ (by simp)) hl.1.2 ha.1,ih (fun b hb=>h b (by simp [hb])) hl.2 ha.2⟩
  rw [aE,af,af,af] at h ⊢
  refine ⟨rfl, ?_,hk ih1 ht.2.1 h.2.2.1,hs ih2 ht.2.2 h.2.2.2⟩
  have h2:=h.2.1
  unfold dS at h2 ⊢
  simp only [af] at h2 ⊢
  refine ⟨h2.1, ?_⟩
  have h3:=h2.2
  split
  ·rename_i c
   rw [if_pos c] at h3
   simp only [af,decide_eq_true_eq] at h3 ⊢
   exact ⟨h3.1,h3.2.1,.inl (by omega)⟩
  ·rename_i c
   rw [if_neg c] at h3
   split
   ·rename_i c
    rw [if_pos c] at h3;exact h3
   ·rename_i c
    rw [if_neg c] at h3
    split
    ·rename_i c
     rw [if_pos c,af] at h3
     rw [af]
     exact ⟨h3.1,oP ((lX o4).1 h3.1) h3.2 hDE⟩
    ·rename_i c
     rw [if_neg c] at h3
     split
     ·rename_i c
      rw [if_pos c,af] at h3
      rw [af]
      exact ⟨h3.1,oP ((kB o4).1 h3.1).1 h3.2 hDE⟩
     ·rename_i c
      rw [if_neg c,af] at h3
      rw [af]
      exact ⟨Vd hDE ht.2.2 h3.1,h3.2⟩
theorem X8 {t:Tm} (h:In k t) {V D:Int} (hr:kX t V D=0):Fm t:=by
 have hr':=hr
 unfold kX at hr
 split at hr
 ·cases hr
 split at hr
 ·cases hr
 split at hr
 ·cases hr
 obtain ⟨_,_,hs⟩:=OB hr'
 exact ⟨h.1,pX (by omega) (by omega) (afs t h.1 (Qj t hs) (Pr hs))⟩
structure MayR (k:Nat) (x t:Tm) (V D:Int) (r:Tm×Bool×Int):Prop where
 YS:In k r.1
 no:r.2.1=false->r.1=noT
 ok:r.2.1=true->r.2.2=0/\kX r.1 V D=0/\r.1.kind=x.kind/\(x.kind=15->r.1.sys.map (·.face)=x.sys.map (·.face))
section
variable {hd:Tm->(Int->OS S)->OS S} {t:Tm}
theorem Z8 (hk:Fu k) (J:Int->OS S) (rec1:Int->Int->OS S) {v:Int} {x:Br Tm} (hQ: ∀y∈x.kids,qY hd y) (hl:x.kids.length<1073741824):
  ∀ (r p:LT) (m:Nat) (a:Int),x.kids=p++r->r.length<m->0<=a->a+iH r<4611686018427387904->qf hd k J rec1 t v x m a (p.length:Int)=rec1 (a+iH r) (aj .i64 (v+1)):=by
 intro r
 induction r with
 |nil=>
  intro p m a h hm ha hz
  obtain ⟨m,rfl,hm'⟩:=ax hm
  simp only [qf,yd,eL h,ak,iH]
  rw [eb]
 |cons y r ih=>
  intro p m a h hm ha hz
  obtain ⟨m,rfl,hm'⟩:=ax hm
  obtain ⟨e1,e2,e3,e4⟩:=bL h (by omega)
  have q2:=hQ y (by rw [h];simp)
  have:=yB y
  have:=Dc r
  rw [iH] at hz
  simp only [qf,yd,e1,au,e2,bD,aM,q2 _,e3,dY (show-9223372036854775808<=1+fM y by omega) (by omega),dY (show-9223372036854775808<=a+(1+fM y) by omega) (by omega)]
  rw [ih _ m _ e4 hm' (by omega) (by omega),iH,Int.add_assoc]
theorem Z7 (hk:Fu k) (J:Int->OS S) (hQ: ∀b∈t.sys,∀y∈b.kids,qY hd y) (ht:OkT t):
  ∀ (r p:LB) (m:Nat) (a:Int),t.sys=p++r->r.length<m->0<=a->a+gS r<4611686018427387904->nx hd k J t m a (p.length:Int)=J (a+gS r):=by
 obtain ⟨o1,o2,o3,o4,o5,o6,o7⟩:=ht.no
 intro r
 induction r with
 |nil=>
  intro p m a h hm ha hz
  obtain ⟨m,rfl,hm'⟩:=ax hm
  simp only [nx,ux,eL h,ak,gS]
  rw [eb]
 |cons x r ih=>
  intro p m a h hm ha hz
  obtain ⟨m,rfl,hm'⟩:=ax hm
  obtain ⟨e1,e2,e3,e4⟩:=bL h (by omega)
  have hx:x∈t.sys:=by rw [h];simp
  rw [Ir] at hz
  have hp:=Dc x.kids
  have hp2:=Is r
  have:=Z8 (t:=t) hk J (nx hd k J t m) (v:=(p.length:Int)) (hQ x hx) (ht.bi hx).1.2.2 x.kids [] k a rfl (by have:=(ht.bi hx).1.2.2;have:4294967296<=k:=hk;omega) ha (by omega)
  simp only [List.length_nil] at this
  simp only [nx,ux,e1,au,e2,bD]
  refine aq this ?_
  rw [e3,ih _ m _ e4 hm' (by omega) (by omega),Ir,Int.add_assoc]
theorem Z6 (hk:Fu k) (J:Int->OS S) (hQ: ∀y∈t.kids,qY hd y) (hQ': ∀b∈t.sys,∀y∈b.kids,qY hd y) (ht:OkT t):
  ∀ (r p:LT) (m:Nat) (a:Int),t.kids=p++r->r.length<m->0<=a->a+iq t.kind p.length r+gS t.sys<4611686018427387904->sX hd k J t m (p.length:Int) a=J (a+iq t.kind p.length r+gS t.sys):=by
 obtain ⟨o1,o2,o3,o4,o5,o6,o7⟩:=ht.no
 intro r
 induction r with
 |nil=>
  intro p m a h hm ha hz
  obtain ⟨m,rfl,hm'⟩:=ax hm
  rw [iq] at hz
  simp only [sX,uw,eL h,ak,iq]
  have hs:=Z7 hk J hQ' ht t.sys [] k a rfl (by have:4294967296<=k:=hk;omega) ha (by omega)
  simp only [List.length_nil] at hs
  refine aq hs ?_
  rw [eb]
 |cons y r ih=>
  intro p m a h hm ha hz
  obtain ⟨m,rfl,hm'⟩:=ax hm
  obtain ⟨e1,e2,e3,e4⟩:=bL h (by omega)
  have q2:=hQ y (by rw [h];simp)
  have:=yB y
  have hb:=jA t.kind p.length
  have hk':=Va t.kind r (p.length+1)
  have hs:=Is t.sys
  rw [iq] at hz
  have:=ih (p++[y]) m (a+(bJ t.kind p.length+fM y)) e4 hm' (by omega) (by rw [List.length_append,List.length_singleton];omega)
  simp only [sX,uw,e1,au,e2,bD,ao hk,qN,aM,q2 _,e3,dY (show-9223372036854775808<=bJ t.kind p.length+fM y by omega) (by omega),dY (show-9223372036854775808<=a+(bJ t.kind p.length+fM y) by omega) (by omega)]
  rw [this,iq,List.length_append,List.length_singleton]
  exact congrArg J (by omega)
end
theorem aew (t:Tm):OkT t-> ∀ {k:Nat} (J:Int->OS S),Fd k (ap t)->(aG t:Int)<1099511627776->kL k t J=J (fM t):=by
 induction t using lg with
 |h t ih1 ih2=>
  intro ht k J hk hdp
  obtain ⟨q,rfl,hq,hf⟩:=hk.pos' (jj t)
  obtain ⟨o1,o2,o3,o4,o5,o6,o7⟩:=ht.no
  have hz:=tU t
  have hQ: ∀y∈t.kids,qY (S:=S) (kL q) y:=fun y hy g=>ih1 y hy (ht.ki hy) g (hf _ (iL hy)) (by have:=qT hy;omega)
  have hQ': ∀b∈t.sys,∀y∈b.kids,qY (S:=S) (kL q) y:=fun b hb y hy g=>ih2 b hb y hy ((ht.bi hb).2 y hy) g (hf _ (ji hb hy)) (by have:=BS hb;have:=qT hy;omega)
  have hbn:=(Dd t).2
  have e:fM t=iq t.kind 0 t.kids+gS t.sys:=by cases t;rw [fM];rfl
  have:=Z6 hq J hQ hQ' ht t.kids [] q 0 rfl (by have:4294967296<=q:=hq;omega) (f_ 0) (by simp only [List.length_nil];omega)
  simp only [List.length_nil] at this
  simp only [kL,Hq]
  refine aq this ?_
  rw [e,Int.zero_add]
set_option maxRecDepth 100000
theorem Yo (hk:F3 k) {phi:LC} {g a:Tm} (fg:Fm g) (hg:g.kind=16) (fa:Fm a) (hp:RX true phi):OkT (d7 phi g a).1:=by
 obtain ⟨fB,sB,lB⟩:=yx hk fg hg fa hp
 unfold d7
 dsimp only
 generalize jz g phi a=B at fB sB lB ⊢
 obtain ⟨st,a1,c0⟩:=B
 dsimp only at fB sB lB ⊢
 have gG:GN (mM c0 (bX 0 [⟨0,0⟩] g)).1:=si fg hg lV (vT (by decide))
 generalize mM c0 (bX 0 [⟨0,0⟩] g)=G at gG ⊢
 obtain ⟨f1,hG,lG,_⟩:=Ar gG
 have hws:=H4 (phi:=phi) (st:=st) (a1:=a1) (t1:=eQ G.1.kids) (c:=G.2) hk fa fB f1 hp sB lB hG
 have hwl:(cD (gN phi a a1 (eQ G.1.kids) st) G.2 G.1.sys).1.length=G.1.sys.length:=oq
 generalize cD (gN phi a a1 (eQ G.1.kids) st) G.2 G.1.sys=ws at hws hwl ⊢
 have fU: ∀c,FN (mM c (cJ 0 1 a1)).1:=fun c=>oB (by omega) (by omega) fB.sm.1.ok
 obtain ⟨w1,w2⟩:=w_ (F:=fun c=>mM c (cJ 0 1 a1)) hp (n:=20000) (fun c=>⟨(fU c).sm.1,by have:=(fU c).sm.2;omega⟩) ws.2
 generalize d4 phi (fun c=>mM c (cJ 0 1 a1)) ws.2=W at w1 w2 ⊢
 have hzip: ∀q∈G.1.sys.zip ws.1,q.1∈G.1.sys/\q.2∈ws.1:=fun q hq=>⟨(List.of_mem_zip hq).1,(List.of_mem_zip hq).2⟩
 generalize hZ:cD (iv a1) W.2 (G.1.sys.zip ws.1)=Z
 have zq: ∀y∈Z.1,∃t,y.kids=[t]/\OkT t/\ap t<=299/\av y.face/\y.face.length<1073741824:=by
  rw [<-hZ]
  exact vv fun q hq c=>Jz fB.sm.1.ok (hws q.2 (hzip q hq).2).1.ok (hG q.1 (hzip q hq).1).2.2.1.ok (g5 (hG q.1 (hzip q hq).1).2.2.2) c
 have zl:Z.1.length=(G.1.sys.zip ws.1).length:=by rw [<-hZ];exact oq
 have pq: ∀y∈(G.1.sys.zip ws.1).map qG,∃t,y.kids=[t]/\OkT t/\ap t<=301/\av y.face/\y.face.length<1073741824:=fun y hy=>by
  obtain ⟨q,hq,rfl⟩:=dA.1 hy
  obtain ⟨h1,h2⟩:=hws q.2 (hzip q hq).2
  have r:=g5 (hG q.1 (hzip q hq).1).2.2.2
  refine ⟨_,rfl, ?_, ?_,r.1,r.2⟩
  ·unfold aH;rw [OkT,aK,aK,bk];exact ⟨⟨by unfold aI;omega,by unfold aI;omega,by decide,(fun c hc=>by cases hc),by simp,by simp,by simp⟩,⟨h1.ok,trivial⟩,trivial⟩
  ·unfold aH;rw [ap,bj,bj,bB];omega
 obtain ⟨o1,o2⟩:=B0 (l:=W.1++Z.1) (n:=299) fun y hy=>by
  rcases eu.1 hy with hy|hy
  ·obtain ⟨t,q1,q2,q3,q4,q5⟩:=w1 y hy;exact ⟨t,q1,q2.ok,q3,q4,q5⟩
  ·exact zq y hy
 obtain ⟨o3,o4⟩:=B0 pq
 have hzl:(G.1.sys.zip ws.1).length<=10000:=by rw [List.length_zip];omega
 rw [OkT,aK,aK,OkT,aK,aK,aK]
 exact ⟨⟨by unfold aI;omega,by unfold aI;omega,by decide,(fun c hc=>by cases hc),by simp,by simp,by rw [List.length_map];omega⟩,⟨⟨⟨by unfold aI;omega,by unfold aI;omega,by decide,(fun c hc=>by cases hc),by simp,by simp,by rw [List.length_append];omega⟩,⟨f1.sm.1.ok,fB.sm.1.ok,trivial⟩,o1⟩,trivial⟩,o3⟩
theorem Yp (hk:F3 k) {t g a:Tm} {V D:Int} (ft:Fm t) (h14:t.kind=14) (hkd:t.kids=[g,a]) (h16:g.kind=16) (hV:0<=V) (hD:0<=D/\D<=6) (hb:aO t<=4) (hs:cr V D t) (h0:(d7 t.r g a).2=0) (hf:dl (d7 t.r g a).1=0):
  Fm (d7 t.r g a).1/\cr V D (d7 t.r g a).1/\(d7 t.r g a).1.kind=17/\(∃z,(d7 t.r g a).1.kids=[z]/\z.kind=15)/\ ∃G,eS 0 [⟨0,0⟩] g= .ok G/\(d7 t.r g a).1.sys.map (·.face)=G.sys.map (·.face):=by
 have fg:Fm g:=ft.kid (by rw [hkd];simp)
 have fa:Fm a:=ft.kid (by rw [hkd];simp)
 have hp:=ft.r14 h14
 obtain ⟨q1,q2,q3,q4⟩:=Qh (Qj t hs) h14 hkd
 have b1:=uK (t:=t) (x:=g) (by rw [hkd];simp)
 have b2:=uK (t:=t) (x:=a) (by rw [hkd];simp)
 obtain ⟨s,r1,r2,r3⟩:=Yq (n:=4) hk (by omega) fg h16 fa hp q1 q2 hD.1 hV ⟨q3,by omega⟩ ⟨q4,by omega⟩ h0
 exact ⟨⟨Yo hk fg h16 fa hp,hf⟩,af0 _ s.1 (by have:=s.2;omega),r1,r2,r3⟩
theorem aeS (hk:F3 k) {t:Tm} (ht:In k t) (J:Bool->OS S): ∃c,zy k t J=J c/\(c=false->aG t<=100):=by
 simp only [zy,aM]
 obtain ⟨w,h1,h2,h3,h4⟩:=ae_ t ht.1 100 (by unfold Mo;omega) (fun r1=>J (decide (r1>100))) ht.2.1
 grind
theorem aaq (hk:Fu k) (J:Bool->OS S) {x b:Tm} (hl:x.sys.length<1073741824) (he:b.sys.map (·.face)=x.sys.map (·.face)) (hf: ∀z∈x.sys,z.face.length<1073741824):
  ∀ (r p:LB) (m:Nat),x.sys=p++r->r.length<m->oM k J x b m (p.length:Int)=J true:=by
 have hlen:b.sys.length=x.sys.length:=by have:=congrArg List.length he;simpa using this
 intro r
 induction r with
 |nil=>
  intro p m h hm
  obtain ⟨m,rfl,hm'⟩:=ax hm
  simp only [oM,yc,eL h,ak]
 |cons y r ih=>
  intro p m h hm
  obtain ⟨m,rfl,hm'⟩:=ax hm
  obtain ⟨e1,e2,e3,e4⟩:=bL h (by omega)
  have hb: ∃z,b.sys[p.length]? =some z/\z.face=y.face:=by
   have h1:(b.sys.map (·.face))[p.length]? =some y.face:=by
    rw [he,h];simp
   rw [List.getElem?_map] at h1
   cases hz:b.sys[p.length]? with
   |none=>rw [hz] at h1;cases h1
   |some z=>rw [hz] at h1;exact ⟨z,rfl,by injection h1⟩
  obtain ⟨z,hz,hzf⟩:=hb
  have g2:ar b.sys (p.length:Int)=some z:=by rw [JN];exact hz
  simp only [oM,yc]
  rw [e1,au,g2,bD,e2,bD,hzf,ao hk,GH hk (by have:=hf y (by rw [h];simp);omega),dL,ak,e3]
  exact ih _ m e4 hm'
theorem Pc (hk:F3 k) {x b:Tm} (ox:OkT x) (he:b.sys.map (·.face)=x.sys.map (·.face)) (J:Bool->OS S):qe k J k x b=J true:=by
 have hfu:4294968296<=k:=hk
 have h7:=ox.no.2.2.2.2.2.2
 obtain ⟨j,hj⟩: ∃j,k=j+1:=⟨k-1,by omega⟩
 have:qe k J k x b=oM k J x b k 0:=by
  conv=>lhs;rw [hj]
  rw [hj];rfl
 rw [this]
 exact aaq hk.fu J h7 he (fun z hz=>(ox.bi hz).1.2.1) x.sys [] k rfl (by omega)
theorem YZ (hk:F3 k) {t:Tm} {V D e e':Int} (J:Bool->OS S):jK k J (noT,false,e) t (noT,false,e') V D k=J true:=by
 have hfu:4294968296<=k:=hk
 obtain ⟨j,hj⟩: ∃j,k=j+1:=⟨k-1,by omega⟩
 have:jK k J (noT,false,e) t (noT,false,e') V D k=rl k J (noT,false,e) t (noT,false,e') V D (sW k J (noT,false,e) t (noT,false,e') V D k):=by
  conv=>lhs;rw [hj]
  rw [hj];rfl
 rw [this]
 have hno: ∀g:Bool->OS S,gH k noT noT g=g true:=fun g=>afa noT (mz hk).1 g (mz hk).2.1
 show ac (!false) (ac (!false) (gH k noT noT fun r7=>ac r7 (gH k noT noT fun r8=>J r8) (J false)) _) _=_
 simp only [ef,au,hno]
theorem JX (hk:F3 k) {t:Tm} {V D:Int} {r6 r5:Tm×Bool×Int} (h:r6.2.1=true\/r5.2.1=true) (J:Bool->OS S):jK k J r6 t r5 V D k=pG k J r6 t r5 V D (fun b13 b14=>qe k J k b13 b14):=by
 have hfu:4294968296<=k:=hk
 obtain ⟨j,hj⟩: ∃j,k=j+1:=⟨k-1,by omega⟩
 have h1:jK k J r6 t r5 V D k=rl k J r6 t r5 V D (sW k J r6 t r5 V D k):=by
  conv=>lhs;rw [hj]
  rw [hj];rfl
 have h2:sW k J r6 t r5 V D k=pG k J r6 t r5 V D (fun b13 b14=>qe k J k b13 b14):=by
  conv=>lhs;rw [hj]
  rw [hj];rfl
 rw [h1,h2]
 unfold rl
 rcases h with h|h
 ·rw [h,dL,ak]
  cases r5.2.1<;>rfl
 ·rw [h,dL,ak]
theorem Js {a b:LB} (h:a.map (·.face)=b.map (·.face)):a.length=b.length:=by
 have:=congrArg List.length h;simpa using this
theorem aen (hk:F3 k) {t:Tm} {V D:Int} (ht:In k t) (hV:aI V) (hD:aI D) (J:Bool->OS S):zx k t V D J=J true:=by
 have hfu:4294968296<=k:=hk
 simp only [zx,Hp,ao hk.fu,aM,afk hk,dL,ak]
 generalize hR:(fun r2:Bool=>ac r2 (J true) _)=R
 obtain ⟨c,h1,h2⟩:=aeS hk ht R
 refine h1.trans ?_
 rw [<-hR]
 cases c with
 |true=>rfl
 |false=>
 have hz:=h2 rfl
 dsimp only
 rw [ak,eC]
 split
 ·rfl
 rename_i hD6
 rw [aew t ht.1 _ ht.2.1 (by have:=ht.2.2;omega),eC]
 split
 ·rfl
 rename_i hb4
 unfold aI at hV hD
 rw [GI ht hk (by omega) (by omega)]
 by_cases r0:kX t V D=0
 case neg=>rw [show (kX t V D==0)=false from by simpa using r0];rfl
 rw [show (!(kX t V D==0))=false from by simpa using r0,ak,aeP hk ht,aeO hk ht]
 have ft:=X8 ht r0
 obtain ⟨v0,d0,hs⟩:=OB r0
 have bt:aO t<=4:=by have:=Dd t;omega
 have both: ∀ {e e':Int},(fun (r5 r6:Tm×Bool×Int)=>ac (r5.2.1) (ac (!(r5.2.2==0)) (J false) (ac (r6.2.1) (ac (!(r6.2.2==0)) (J false) (ac (r5.2.1) (ac (r6.2.1) (J false) (jK k J r6 t r5 V D k)) (jK k J r6 t r5 V D k))) (ac (r5.2.1) (ac (r6.2.1) (J false) (jK k J r6 t r5 V D k)) (jK k J r6 t r5 V D k)))) (ac (r6.2.1) (ac (!(r6.2.2==0)) (J false) (ac (r5.2.1) (ac (r6.2.1) (J false) (jK k J r6 t r5 V D k)) (jK k J r6 t r5 V D k))) (ac (r5.2.1) (ac (r6.2.1) (J false) (jK k J r6 t r5 V D k)) (jK k J r6 t r5 V D k)))) (noT,false,e') (noT,false,e)=J true:=fun {e e'}=>by
  dsimp only
  simp only [ak]
  exact YZ hk J
 have hm:AL t=if t.kind=15/\(t.kids.getD 0 noT).kind=16 then pf (oQ t) else (noT,false,0):=by
  unfold AL;exact if_neg (by simp [ft.2])
 have hg:Ao t=if t.kind=14/\(t.kids.getD 0 noT).kind=16 then (fun q:Tm×Int=>((dM q.2 q.1).1,(dM q.2 q.1).2==0,(dM q.2 q.1).2)) (d7 t.r (t.kids.getD 0 noT) (t.kids.getD 1 noT)) else (noT,false,0):=by
  unfold Ao;exact if_neg (by simp [ft.2])
 rw [hm,hg]
 by_cases h15:t.kind=15/\(t.kids.getD 0 noT).kind=16
 ·rw [if_pos h15,if_neg (fun h=>by omega)]
  cases hh:oQ t with
  |error e=>exact both
  |ok y=>
  by_cases fy:dl y=0
  case neg=>rw [show pf (.ok y)=(noT,false,dl y) from if_neg fy];exact both
  rw [show pf (.ok y)=(y,true,0) from if_pos fy]
  obtain ⟨g,b,hkd⟩:=t6 (sn ft h15.1 (n:=2) rfl)
  obtain ⟨d0',d1'⟩:=r_ hkd
  obtain ⟨g0,g1⟩:=Ap hkd
  have h16:g.kind=16:=by rw [<-d0'];exact h15.2
  have fg:Fm g:=ft.kid (by rw [hkd];simp)
  obtain ⟨hx,_,a,ha,fa⟩:=fg.gl h16
  obtain ⟨iy,_⟩:=abK hk ft h15.1 h15.2 hh
  obtain ⟨sy,y17,⟨z,hz1,hz2⟩,hfc⟩:=afy hk ft h15.1 hkd h16 ha v0 ⟨d0,by omega⟩ hs bt hh
  simp only [au,ak,beq_self_eq_true,dL]
  rw [JX hk (.inr rfl)]
  unfold pG
  have gz:ar y.kids 0=some z:=by rw [hz1];rfl
  have hkl:(y.kids.length:Int)=1:=by rw [hz1];rfl
  have hsl:(y.sys.length:Int)=(g.sys.length:Int):=by rw [Js hfc]
  simp only [g0,bD,ak,y17,hkl,gz,hz2,hsl,beq_self_eq_true,dL,ao hk.fu,aM]
  rw [GI iy hk (by omega) (by omega),OC fy v0 d0 sy,show (!((0:Int)==0))=false from rfl,ak]
  exact Pc hk fg.ok hfc J
 rw [if_neg h15]
 by_cases h14:t.kind=14/\(t.kids.getD 0 noT).kind=16
 case neg=>rw [if_neg h14];exact both
 rw [if_pos h14]
 obtain ⟨g,a,hkd⟩:=t6 (sn ft h14.1 (n:=2) rfl)
 obtain ⟨d0',d1'⟩:=r_ hkd
 obtain ⟨g0,g1⟩:=Ap hkd
 have h16:g.kind=16:=by rw [<-d0'];exact h14.2
 have fg:Fm g:=ft.kid (by rw [hkd];simp)
 rw [d0',d1']
 dsimp only
 by_cases hc:(d7 t.r g a).2=0
 case neg=>
  rw [show dM (d7 t.r g a).2 (d7 t.r g a).1=(noT,(d7 t.r g a).2) from if_neg hc]
  dsimp only
  rw [show ((d7 t.r g a).2==0)=false from by simpa using hc]
  exact both
 by_cases fy:dl (d7 t.r g a).1=0
 case neg=>
  rw [show dM (d7 t.r g a).2 (d7 t.r g a).1=(noT,dl (d7 t.r g a).1) from by unfold dM;rw [if_pos hc,if_neg fy]]
  dsimp only
  rw [show (dl (d7 t.r g a).1==0)=false from by simpa using fy]
  exact both
 rw [show dM (d7 t.r g a).2 (d7 t.r g a).1=((d7 t.r g a).1,0) from by unfold dM;rw [if_pos hc,if_pos fy]]
 obtain ⟨fm,sy,y17,⟨z,hz1,hz2⟩,G,hG,hfc⟩:=Yp hk ft h14.1 hkd h16 v0 ⟨d0,by omega⟩ bt hs hc fy
 generalize (d7 t.r g a).1=y at fm sy y17 hz1 hfc fy ⊢
 simp only [au,ak,beq_self_eq_true,dL]
 rw [JX hk (.inl rfl)]
 unfold pG
 have gz:ar y.kids 0=some z:=by rw [hz1];rfl
 have hkl:(y.kids.length:Int)=1:=by rw [hz1];rfl
 have hsl:(y.sys.length:Int)=(G.sys.length:Int):=by rw [Js hfc]
 simp only [g0,bD,au,ao hk.fu,m8,aM]
 rw [Gz hk (fg.isIn hk) (i:=0) (by decide) lV,show bX 0 [⟨0,0⟩] g=eS 0 [⟨0,0⟩] g from if_pos fg.2,hG]
 simp only [show (tE (.ok G)).2=0 from rfl,show (tE (.ok G)).1=G from rfl,y17,hkl,gz,bD,hz2,hsl,beq_self_eq_true,dL,ak]
 rw [GI (fm.isIn hk) hk (by omega) (by omega),OC fy v0 d0 sy,show (!((0:Int)==0))=false from rfl,ak]
 exact Pc hk (PM fg hG).ok hfc J
end Go.Proofs.YtgajalidbabccaaGreatDoor
namespace Go.Proofs.YtgajalidbabccaaGreatDoor
open Go PI Go.ChangeShapes Go.WideShapes Go.ChangeAt Go.RowKit
set_option maxRecDepth 100000
set_option maxHeartbeats 4000000
theorem YO {k:Nat} (hk:4296016872<=k) {H:Type} {t:Tm} {d:DataW H} (h:QT t d) (hb:Rows.uptoBulk d<=1048576):In k t:=by
 have h1:=h.1
 have h2:=IS t
 exact ⟨h.2 (by omega),by unfold Fd;omega,by omega⟩
theorem Ij {H:Type} {enc:TypeId×Value->H} {w:World} {spare:Nat->Bool} {held:Bool} {o:Obj} {N:aQ} {g:Gh UU} (hN: ∀b o,¬N b o) {W:World} {base:Nat} {v:Value} {d:DataW H} {ps:List MemPlace} (hv:Value.okWide Tryz.prog W .any base 3 v) (h:DataW.Trod enc Tryz.prog w 0 spare held 3 v d ps):
  ∃n:Int,Rep (LL o) w N g v (.int .i64 n)/\aI n:=by
 obtain ⟨n,rfl⟩:=okWide_int Tryz.underlying3 hv
 obtain ⟨q,hq⟩:=h
 obtain ⟨z,hz,hi⟩:=Fv hq
 obtain rfl:n=z:=by simpa [Value.cells] using hz
 exact ⟨n,.int _ _,hi⟩
theorem hrow (q:Nat) {a0 b0:Int} {c0:ByteArray} {d0:List Cl} {e0:List Tm} {f0:List (Br Tm)} {t1:Int} {t2:Int}:By (S:=Out UU) q [.agg (gE ET.T (Tm.mk a0 b0 c0 d0 e0 f0)),.int .i64 t1,.int .i64 t2] [] some=aa q (zx q (Tm.mk a0 b0 c0 d0 e0 f0) t1 t2) fun r=>some (Out.ret (U:=UU) (.bool r) []):=by kernel_rfl
theorem aa2 {j:Nat} (hF:F3 (j+1)) {t0:Tm} (h0:In (j+1) t0) {t1:Int} (h1:aI t1) {t2:Int} (h2:aI t2):By (S:=Out UU) (j+1) [.agg (gE ET.T t0),.int .i64 t1,.int .i64 t2] [] some=some (.ret (.bool true) []):=by
 obtain ⟨a0,b0,c0,d0,e0,f0⟩:=t0
 exact (hrow (j+1)).trans ((Iw (by omega) _ _).trans (aen hF h0 h1 h2 fun r=>some (Out.ret (U:=UU) (.bool r) [])))
theorem aa1 {k:Nat} (hk:4296016872<=k) {o:Obj} (ho:ai o) {t0:Tm} (h0:In k t0) {t1:Int} (h1:aI t1) {t2:Int} (h2:aI t2):
  d5 (LL o) 7 [.agg (gE ET.T t0),.int .i64 t1,.int .i64 t2] [] (.ret (.bool true) []):=by
 have hF:F3 k:=by unfold F3;omega
 obtain ⟨j,rfl⟩: ∃j,k=j+1:=⟨k-1,by omega⟩
 obtain ⟨out,hout,hx⟩:=ago (S:=Out UU) o ho (j+1) [.agg (gE ET.T t0),.int .i64 t1,.int .i64 t2] [] some (.ret (.bool true) []) (aa2 hF h0 h1 h2)
 injection hx with hx
 exact hx▸hout
theorem aa0 (H:Type) (enc:TypeId×Value->H) (W:World) (base:Nat) (args:Array Value) (ds gs:List (DataW H)) (before:List MemPlace)
  (hval: ∀ (j:Nat) t v,Tryz.f7.params[j]? =some t->args[j]? =some v->Value.okWide Tryz.prog W .any base t v)
  (hW:DataW.Whole enc Tryz.prog Tryz.f7.params.toList Rows.glueMaySpec.vars false W args.toList ds gs before) (hL:laidMetH Tryz.prog Rows.glueMayRow.laid W) (hb:Rows.uptoBulkAll (ds++gs)<=1048576):
  Calls Tryz.prog 7 args W fun e W'=> ∃v,e= .returned v/\Rows.glueMaySpec.post enc Tryz.prog Tryz.f7 false true false false W args v W':=by
 have hW':=hW
 obtain ⟨p,q,hA0,hV,rfl,hfz,hnd⟩:=hW
 have hA:DataW.TrodAll enc Tryz.prog W 0 (fun _=>true) true Tryz.f7.params.toList args.toList ds p:=hA0
 rw [Tryz.params7] at hA hval
 obtain ⟨v0,vs0,d0,ds0,p0,q0,hargs,rfl,rfl,h0,r0⟩:=trodAll_cons hA
 obtain ⟨v1,vs1,d1,ds1,p1,q1,rfl,rfl,rfl,h1,r1⟩:=trodAll_cons r0
 obtain ⟨v2,vs2,d2,ds2,p2,q2,rfl,rfl,rfl,h2,r2⟩:=trodAll_cons r1
 obtain ⟨rfl,rfl,rfl⟩:=trodAll_nil r2
 obtain rfl:args= #[v0,v1,v2]:=by cases args;simp_all
 obtain ⟨rfl,rfl⟩:=trodVars_none hV
 obtain ⟨o,ho,hh⟩:=agf hL
 simp only [eN,Rows.uptoBulkAll,Nat.add_zero] at hb
 obtain ⟨t0,e0,k0⟩:=UK (o:=o) (g:=gB UU 0 fun _=>0) Fq h0
 obtain ⟨t1,e1,k1⟩:=Ij (o:=o) (g:=gB UU 0 fun _=>0) Fq (hval 1 3 v1 rfl rfl) h1
 obtain ⟨t2,e2,k2⟩:=Ij (o:=o) (g:=gB UU 0 fun _=>0) Fq (hval 2 3 v2 rfl rfl) h2
 have hk:(4296016872:Nat)<=4296016872:=ee _
 generalize hkk:(4296016872:Nat)=k at hk
 have hok:=aa1 (k:=k) (by omega) ho (YO (by omega) k0 (by omega)) k1 k2
 refine (Vk hok (Yu hh rfl rfl fun j p hj=> ?_)).mono ?_
 ·match j,hj with
  |0,hj=>cases hj;exact e0
  |1,hj=>cases hj;exact e1
  |2,hj=>cases hj;exact e2
  |j+3,hj=>simp at hj
 ·rintro e W' ⟨rfl,hkept⟩
  refine ⟨_,rfl,acI rfl rfl (fun t ht=> ?_) rfl hW' hkept⟩
  rw [Tryz.params7] at ht
  have ht':t=26\/t=3\/t=3:=by simpa using ht
  rcases ht' with rfl|rfl|rfl<;>exact of_decide_eq_true (by kernel_rfl)
noncomputable def EP (os:Os):World:=
 {World.holding Tryz.prog os ⟨#[],#[],[]⟩ with heap:=(World.holding Tryz.prog os ⟨#[],#[],[]⟩).heap.modify 0 fun
   | .cells _ t frozen=> .cells (Lib.deBruijn32tab.map fun n:Nat=>Value.int .u8 n).toArray t frozen
   |o=>o}
def ahx:Value:= .agg #[.int .i64 0,.int .i64 0,.string aw,.slice none 0 0,.slice none 0 0,.slice none 0 0]
def zeroArgs:Array Value:= #[ahx,.int .i64 0,.int .i64 0]
def ahv {H:Type}:DataW H:= .agg [.lit (.int .i64 0),.lit (.int .i64 0),.lit (.string []),.nil,.nil,.nil]
theorem aaX (os:Os):laidMet Tryz.prog Rows.glueMayRow.laid ((EP os).forCall (fun _ _=>0) ⟨#[],zeroArgs,[]⟩).memory:=
 laidMet_of_run' 8 (by kernel_rfl) (by kernel_rfl)
theorem adP (os:Os) {H:Type} (enc:TypeId×Value->H): ∃places,DataW.whole enc Tryz.prog ((EP os).forCall (fun _ _=>0) ⟨#[],zeroArgs,[]⟩).memory Tryz.f7.params.toList Rows.glueMaySpec.vars false zeroArgs.toList 8=some ([ahv,.lit (.int .i64 0),.lit (.int .i64 0)],[],places):=
 ⟨[],by kernel_rfl⟩
theorem abj (os:Os) (started:os.Started) (H:Type) (enc:TypeId×Value->H) (F:Stop.Interp):
  ReturnsInHanded {} Tryz.checked os 7 .any ((Rows.OpenSpec.upto Rows.glueMaySpec).preRow enc Tryz.prog Tryz.f7 Rows.glueMayUptoRow.domain false Rows.glueMayUptoRow.laid) (((Rows.OpenSpec.upto Rows.glueMaySpec).at F).post enc Tryz.prog Tryz.f7 false true false false):=by
 obtain ⟨places,hx⟩:=adP os enc
 refine returnsInHanded_of_row (C:=Tryz.checked) (s:=Rows.OpenSpec.upto Rows.glueMaySpec) own started (by kernel_rfl) Tryz.func7
  (witness_row_at (enc:=enc) (C:=Tryz.checked) false (EP os) zeroArgs rfl (by kernel_rfl) (by kernel_rfl) (by kernel_rfl)
   (OpenSpec.preRow_of_cond 8 hx (by kernel_rfl) (fun k hk=>by cases hk;kernel_rfl) (by kernel_rfl) (aaX os))) ?_
 intro W base args ds gs before hval hW _ hcond _ hL _ _
 exact aa0 H enc W base args ds gs before hval hW hL (of_decide_eq_true (hcond _ rfl))
theorem afm:Rows.GlueMayUptoSaid:=
 OpenClaim.holds_of_cond 7 Tryz.f7 rfl rfl rfl rfl rfl rfl rfl ⟨rfl,rfl,rfl,rfl,rfl⟩ rfl rfl rfl rfl rfl (by as_aux_lemma=>kernel_rfl) Tryz.func7 Y2
  (of_decide_eq_true (by as_aux_lemma=>kernel_rfl)) (by unfold Func.isWrapper;first|(rw [if_pos (by decide+kernel)];kernel_rfl)|(rw [if_neg (by decide+kernel)];exact ⟨rfl,rfl⟩))
  (fun os started H enc _ F=>by rw [OpenClaim.pre_eq_preRow];exact abj os started H enc F)
theorem plain (f:FuncId) (fn:Func) (hf:Tryz.pinned.checked.prog.funcNamed "hypercube/hypercubelaw18.GlueMay" =some f) (hfn:Tryz.pinned.checked.prog.funcs[f]? =some fn):
  true=Tryz.pinned.checked.prog.looks []/\ ∀ (j:Nat) t,fn.params[j]? =some t->Tryz.pinned.checked.prog.wantsStandIn t=false:=by
 obtain rfl:f=7:=Option.some.inj ((show Tryz.prog.funcNamed "hypercube/hypercubelaw18.GlueMay" =some 7 by kernel_rfl).symm.trans hf)|>.symm
 obtain rfl:fn=Tryz.f7:=(Option.some.inj (Tryz.func7.symm.trans hfn)).symm
 refine ⟨by kernel_rfl,fun j t ht=> ?_⟩
 rw [Tryz.params7] at ht
 have ht':t=26\/t=3\/t=3:=by simpa using Array.mem_of_getElem? ht
 rcases ht' with rfl|rfl|rfl
 ·exact (show Tryz.prog.wantsStandIn 26=false by kernel_rfl)
 ·exact (show Tryz.prog.wantsStandIn 3=false by kernel_rfl)
 ·exact (show Tryz.prog.wantsStandIn 3=false by kernel_rfl)
theorem glueMay_holds:Rows.GlueMayUptoCardSaid:=
 Claim7.holds_tied_plain_at .later [] _ _ _ _ afm (fun _ h=>by cases h) (by as_aux_lemma=>kernel_rfl) (fun _ h=>by cases h) glueMayUpto_row_tie rfl ⟨rfl,rfl⟩ (by as_aux_lemma=>kernel_rfl) rfl plain (by as_aux_lemma=>kernel_rfl)
#print axioms glueMay_holds
end Go.Proofs.YtgajalidbabccaaGreatDoor
